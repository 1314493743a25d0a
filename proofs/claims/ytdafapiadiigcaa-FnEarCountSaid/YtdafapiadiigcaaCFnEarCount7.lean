/- Part 7 of what shows the law FnEarCount: what the code computes, and the plain law. No condition of its own. -/
import Derived.Test.YtdafapiadiigcaaCFnEarCount6
import Derived.SizedLaws
import Derived.ChangeSlices
import Derived.Test.YtdafapiadiigcaaRows
import Derived.ProofKit
import Derived.OpenShut
import Derived.ShutString
import Derived.ChangeOld
namespace Go.Proofs.Ytdafapiadiigcaa.P
open Go.RowKit Go.Proofs.YtdafapiadiigcaaW.PrintWords Go.Proofs.YtdafapiadiigcaaW.PrintLast Go.Proofs.YtdafapiadiigcaaW.PrintMore
attribute [local go_sem] max2_int min2_int max_two min_two max_three min_three max_four min_four
set_option linter.unusedVariables false
set_option linter.unusedSimpArgs false
set_option maxHeartbeats 8000000
set_option maxRecDepth 100000
def laws_FnEarCount.f(k:Nat)(l0:List Int):Option (Bool):=if(l0.length:Int)>1048576 then(some true)else((spec_DrawEarOk.f k l0).bind fun bt1=>((impl_EarOk.f k bt1.1 bt1.2.1 bt1.2.2).bind fun t9=>((spec_EarOk.f k bt1.1 bt1.2.1 bt1.2.2).bind fun t10=>(if(t9 !=t10)=true then((spec_EarOk.f k bt1.1 bt1.2.1 bt1.2.2).bind fun t11=>(some (t9==t11)))else(if t9=true then(some ((bt1.2.2.length:Int)==(wrap64 ((wrap64 ((bt1.2.1.length:Int)-bt1.1))+1))))else((spec_EarOk.f k bt1.1 bt1.2.1 bt1.2.2).bind fun t12=>(some (t9==t12))))))))
theorem laws_FnEarCount.calls(k:Nat)(A0:Option Addr)(c0:Nat)(l0:List Int)(r:Bool)(w:World)(hr0:Kd.C (Kd.int .u8) w A0 l0.length l0)(hc0:l0.length≤c0)(h:laws_FnEarCount.f k l0=some r):
 Calls Try.prog 3 #[.slice A0 l0.length c0] w fun e w'=>e= .returned (.bool r)∧Below w.heap.size w w':=by
 have hu25:=Try.underlying25;have HR0:=amk hr0;have HC0:=amk hc0;clear hr0 hc0;have HB:=amk (Below.refl w.heap.size w);have H:(if(l0.length:Int)>1048576 then(some true)else((spec_DrawEarOk.f k l0).bind fun bt1=>((impl_EarOk.f k bt1.1 bt1.2.1 bt1.2.2).bind fun t9=>((spec_EarOk.f k bt1.1 bt1.2.1 bt1.2.2).bind fun t10=>(if(t9 !=t10)=true then((spec_EarOk.f k bt1.1 bt1.2.1 bt1.2.2).bind fun t11=>(some (t9==t11)))else(if t9=true then(some ((bt1.2.2.length:Int)==(wrap64 ((wrap64 ((bt1.2.1.length:Int)-bt1.1))+1))))else((spec_EarOk.f k bt1.1 bt1.2.1 bt1.2.2).bind fun t12=>(some (t9==t12)))))))))=some r:=h;clear h;by_cases c2:(l0.length:Int)>1048576
 · rw[if_pos c2]at H
   have c2b0:decide (1048576<(l0.length:Int))=true:=det c2;have c2b1:decide (1048576<l0.length)=true:=det (by omega);clear c2;obtain rfl:=osi H
   go_enter Try.func3,Try.ntmps3
   go_wp2
   go_ret
   exact⟨eqx,hbx HB⟩
 rw[if_neg c2]at H;have c2b0:decide (1048576<(l0.length:Int))=false:=def_ c2;have c2b1:decide (1048576<l0.length)=false:=def_ (by omega);clear c2;obtain⟨⟨t1,t2,t5⟩,A3,H⟩:=bnda H;(try dsimp only at H);obtain⟨t9,A4,H⟩:=bnda H;obtain⟨t10,A5,H⟩:=bnda H;by_cases c6:(t9 !=t10)=true
 · rw[if_pos c6]at H
   have c6b0:(t9 !=t10)=true:=c6;(try(have c6b1:decide (t9=t10)=false:=by simpa using c6));(try(have c6b2:(t9==t10)=false:=by simpa using c6));(try(have c6b3: ¬(t9=t10):=by simpa using c6));clear c6;obtain⟨t11,A7,H⟩:=bnda H;obtain rfl:=osi H
   go_enter Try.func3,Try.ntmps3
   go_wp2_with (first|((with_reducible refine gate_callee (f:=13) rfl ?_);refine gl 11 Try.func13 #[.slice A0 l0.length c0] ?_;(with_reducible refine(spec_DrawEarOk.calls k _ _ l0 t1 t2 t5 _ ?side1 ?side2 A3.out).mono ?_);(case side1=>repeat(first|exact HR0.out|(with_reducible refine Kd.C_alloc ?_ _)|(with_reducible refine Kd.C_drewN ?_ _)|(with_reducible refine Kd.C_drew ?_)));(case side2=>exact HC0.out);rintro e w8 ⟨v103,v106,rfl,ho0,ho1,hb⟩;refine⟨_,rfl,?_⟩;have O4:=amk (Kd.R_lower (Kd.R_mono (ok':=fun k_=>True) ho0 (fun _ hk_=>trivial)) (below_size (hbx HB)));have O7:=amk (Kd.N_lower (Kd.N_mono (ok':=fun k_=>some k_≠(v103:Value).ownBlock) ho1 (fun k_ hk_=>hk_.2)) (below_size (hbx HB)));replace HB:=hbn HB hb;clear hb ho0 ho1)|((with_reducible refine gate_dst (N:=3) rfl ?_);refine bx #[.int .i64 0,.slice none 0 0] 25 ?_;intro g8 hg w9 hbox hb;have B8:=amk hbox;have G8:=gw hg (hbx HB);have J8:=gw hg (hbx HB);replace O4:=amk (Kd.R_below (rx O4) hb);replace O7:=amk (Kd.N_below (Kd.N_elderB (nx O7) g8 (Nat.le_of_eq hg.symm)) hb);replace HB:=hbn HB hb;clear hb hbox hg;obtain⟨hcz10_0,hcz10_1,hfz10_0,hfz10_1⟩:=cf2 B8;obtain⟨Ao11,co11,eo11⟩:=Kd.R_slice O4.out;subst eo11;obtain⟨Ao12,co12,eo12⟩:=Kd.N_slice O7.out;subst eo12)|((with_reducible refine gate_callee (f:=14) rfl ?_);refine gl 16 Try.func14 #[.agg #[.int .i64 t1,.slice Ao11 t2.length co11],.slice Ao12 t5.length co12] ?_;(with_reducible refine(impl_EarOk.calls k t1 _ _ t2 _ _ t5 t9 _ ?side1 ?side2 ?side3 ?side4 A4.out).mono ?_);(case side1=>refine(Kd.R_reads' (e:=57) (base:=w.heap.size) (ok:=fun k_=>True) (n:=t2.length) (c:=co11) ?_).2.2;exact(by(with_reducible repeat(first|apply Kd.R_alloc|apply Kd.R_drewN|apply Kd.R_drew));exact(Kd.R_mono (Rf2 O4 B8 (.int .i64 t1) (.slice Ao11 t2.length co11)) (fun _ h_=>h_.1))));(case side2=>exact(Kd.R_reads' O4.out).2.1);(case side3=>refine(Kd.N_reads' (e:=43) (base:=w.heap.size) (ok:=fun k_=>(some k_≠(.slice Ao11 t2.length co11:Value).ownBlock∧k_≠g8)) (n:=t5.length) (c:=co12) ?_).2.2;exact(by(with_reducible repeat(first|apply Kd.N_alloc|apply Kd.N_drewN|apply Kd.N_drew));exact(Kd.N_mono (Kd.N_far (p:=⟨g8,1,none⟩) (Kd.N_far (p:=⟨g8,0,none⟩) (Kd.N_mono O7.out (fun k_ hk=>(⟨hk,hk.2⟩:_∧k_≠g8))) (fun _ hk=>hk.2) (.int .i64 t1)) (fun _ hk=>hk.2) (.slice Ao11 t2.length co11)) (fun _ h_=>h_.1))));(case side4=>exact(Kd.N_reads' O7.out).2.1);rintro e w13 ⟨rfl,hb⟩;refine⟨_,rfl,?_⟩;replace O4:=amk (Kd.R_below (by(with_reducible repeat(first|apply Kd.R_alloc|apply Kd.R_drewN|apply Kd.R_drew));exact(Kd.R_mono (Rf2 O4 B8 (.int .i64 t1) (.slice Ao11 t2.length co11)) (fun _ h_=>h_.1))) hb);replace O7:=amk (Kd.N_below (by(with_reducible repeat(first|apply Kd.N_alloc|apply Kd.N_drewN|apply Kd.N_drew));exact(Kd.N_mono (Kd.N_far (p:=⟨g8,1,none⟩) (Kd.N_far (p:=⟨g8,0,none⟩) (Kd.N_mono O7.out (fun k_ hk=>(⟨hk,hk.2⟩:_∧k_≠g8))) (fun _ hk=>hk.2) (.int .i64 t1)) (fun _ hk=>hk.2) (.slice Ao11 t2.length co11)) (fun _ h_=>h_.1))) hb);replace B8:=amk (blk_below (g:=g8) (o:= .cells #[.int .i64 t1,.slice Ao11 t2.length co11] 25 (0,0)) (bkp B8) hb);replace HB:=hbn HB hb;clear hb;obtain⟨hcz14_0,hcz14_1,hfz14_0,hfz14_1⟩:=cf2 B8)|((with_reducible refine gate_callee (f:=15) rfl ?_);refine gl 20 Try.func15 #[.agg #[.int .i64 t1,.slice Ao11 t2.length co11],.slice Ao12 t5.length co12] ?_;(with_reducible refine(spec_EarOk.calls k t1 _ _ t2 _ _ t5 t10 _ ?side1 ?side2 ?side3 ?side4 A5.out).mono ?_);(case side1=>repeat(first|exact(Kd.R_reads' O4.out).2.2|(with_reducible refine Kd.C_alloc ?_ _)|(with_reducible refine Kd.C_drewN ?_ _)|(with_reducible refine Kd.C_drew ?_)));(case side2=>exact(Kd.R_reads' O4.out).2.1);(case side3=>repeat(first|exact(Kd.N_reads' O7.out).2.2|(with_reducible refine Kd.C_alloc ?_ _)|(with_reducible refine Kd.C_drewN ?_ _)|(with_reducible refine Kd.C_drew ?_)));(case side4=>exact(Kd.N_reads' O7.out).2.1);rintro e w15 ⟨rfl,hb⟩;refine⟨_,rfl,?_⟩;replace O4:=amk (Kd.R_below (rx O4) hb);replace O7:=amk (Kd.N_below (nx O7) hb);replace B8:=bk B8 hb;replace HB:=hbn HB hb;clear hb;obtain⟨hcz16_0,hcz16_1,hfz16_0,hfz16_1⟩:=cf2 B8)|((with_reducible refine gate_callee (f:=15) rfl ?_);refine gl 29 Try.func15 #[.agg #[.int .i64 t1,.slice Ao11 t2.length co11],.slice Ao12 t5.length co12] ?_;(with_reducible refine(spec_EarOk.calls k t1 _ _ t2 _ _ t5 t11 _ ?side1 ?side2 ?side3 ?side4 A7.out).mono ?_);(case side1=>repeat(first|exact(Kd.R_reads' O4.out).2.2|(with_reducible refine Kd.C_alloc ?_ _)|(with_reducible refine Kd.C_drewN ?_ _)|(with_reducible refine Kd.C_drew ?_)));(case side2=>exact(Kd.R_reads' O4.out).2.1);(case side3=>repeat(first|exact(Kd.N_reads' O7.out).2.2|(with_reducible refine Kd.C_alloc ?_ _)|(with_reducible refine Kd.C_drewN ?_ _)|(with_reducible refine Kd.C_drew ?_)));(case side4=>exact(Kd.N_reads' O7.out).2.1);rintro e w17 ⟨rfl,hb⟩;refine⟨_,rfl,?_⟩;replace O4:=amk (Kd.R_below (rx O4) hb);replace O7:=amk (Kd.N_below (nx O7) hb);replace B8:=bk B8 hb;replace HB:=hbn HB hb;clear hb))
   go_ret
   exact⟨eqx,hbx HB⟩
 rw[if_neg c6]at H;(have c6b0:(t9 !=t10)=false:=by simpa using c6);(try(have c6b1:decide (t9=t10)=true:=by simpa using c6));(try(have c6b2:(t9==t10)=true:=by simpa using c6));clear c6;by_cases c18:t9=true
 · subst c18
   rw[if_pos rfl]at H;obtain rfl:=osi H
   go_enter Try.func3,Try.ntmps3
   go_wp2_with (first|((with_reducible refine gate_callee (f:=13) rfl ?_);refine gl 11 Try.func13 #[.slice A0 l0.length c0] ?_;(with_reducible refine(spec_DrawEarOk.calls k _ _ l0 t1 t2 t5 _ ?side1 ?side2 A3.out).mono ?_);(case side1=>repeat(first|exact HR0.out|(with_reducible refine Kd.C_alloc ?_ _)|(with_reducible refine Kd.C_drewN ?_ _)|(with_reducible refine Kd.C_drew ?_)));(case side2=>exact HC0.out);rintro e w19 ⟨v103,v106,rfl,ho0,ho1,hb⟩;refine⟨_,rfl,?_⟩;have O4:=amk (Kd.R_lower (Kd.R_mono (ok':=fun k_=>True) ho0 (fun _ hk_=>trivial)) (below_size (hbx HB)));have O7:=amk (Kd.N_lower (Kd.N_mono (ok':=fun k_=>some k_≠(v103:Value).ownBlock) ho1 (fun k_ hk_=>hk_.2)) (below_size (hbx HB)));replace HB:=hbn HB hb;clear hb ho0 ho1)|((with_reducible refine gate_dst (N:=3) rfl ?_);refine bx #[.int .i64 0,.slice none 0 0] 25 ?_;intro g8 hg w20 hbox hb;have B8:=amk hbox;have G8:=gw hg (hbx HB);have J8:=gw hg (hbx HB);replace O4:=amk (Kd.R_below (rx O4) hb);replace O7:=amk (Kd.N_below (Kd.N_elderB (nx O7) g8 (Nat.le_of_eq hg.symm)) hb);replace HB:=hbn HB hb;clear hb hbox hg;obtain⟨hcz21_0,hcz21_1,hfz21_0,hfz21_1⟩:=cf2 B8;obtain⟨Ao22,co22,eo22⟩:=Kd.R_slice O4.out;subst eo22;obtain⟨Ao23,co23,eo23⟩:=Kd.N_slice O7.out;subst eo23)|((with_reducible refine gate_callee (f:=14) rfl ?_);refine gl 16 Try.func14 #[.agg #[.int .i64 t1,.slice Ao22 t2.length co22],.slice Ao23 t5.length co23] ?_;(with_reducible refine(impl_EarOk.calls k t1 _ _ t2 _ _ t5 true _ ?side1 ?side2 ?side3 ?side4 A4.out).mono ?_);(case side1=>refine(Kd.R_reads' (e:=57) (base:=w.heap.size) (ok:=fun k_=>True) (n:=t2.length) (c:=co22) ?_).2.2;exact(by(with_reducible repeat(first|apply Kd.R_alloc|apply Kd.R_drewN|apply Kd.R_drew));exact(Kd.R_mono (Rf2 O4 B8 (.int .i64 t1) (.slice Ao22 t2.length co22)) (fun _ h_=>h_.1))));(case side2=>exact(Kd.R_reads' O4.out).2.1);(case side3=>refine(Kd.N_reads' (e:=43) (base:=w.heap.size) (ok:=fun k_=>(some k_≠(.slice Ao22 t2.length co22:Value).ownBlock∧k_≠g8)) (n:=t5.length) (c:=co23) ?_).2.2;exact(by(with_reducible repeat(first|apply Kd.N_alloc|apply Kd.N_drewN|apply Kd.N_drew));exact(Kd.N_mono (Kd.N_far (p:=⟨g8,1,none⟩) (Kd.N_far (p:=⟨g8,0,none⟩) (Kd.N_mono O7.out (fun k_ hk=>(⟨hk,hk.2⟩:_∧k_≠g8))) (fun _ hk=>hk.2) (.int .i64 t1)) (fun _ hk=>hk.2) (.slice Ao22 t2.length co22)) (fun _ h_=>h_.1))));(case side4=>exact(Kd.N_reads' O7.out).2.1);rintro e w24 ⟨rfl,hb⟩;refine⟨_,rfl,?_⟩;replace O4:=amk (Kd.R_below (by(with_reducible repeat(first|apply Kd.R_alloc|apply Kd.R_drewN|apply Kd.R_drew));exact(Kd.R_mono (Rf2 O4 B8 (.int .i64 t1) (.slice Ao22 t2.length co22)) (fun _ h_=>h_.1))) hb);replace O7:=amk (Kd.N_below (by(with_reducible repeat(first|apply Kd.N_alloc|apply Kd.N_drewN|apply Kd.N_drew));exact(Kd.N_mono (Kd.N_far (p:=⟨g8,1,none⟩) (Kd.N_far (p:=⟨g8,0,none⟩) (Kd.N_mono O7.out (fun k_ hk=>(⟨hk,hk.2⟩:_∧k_≠g8))) (fun _ hk=>hk.2) (.int .i64 t1)) (fun _ hk=>hk.2) (.slice Ao22 t2.length co22)) (fun _ h_=>h_.1))) hb);replace B8:=amk (blk_below (g:=g8) (o:= .cells #[.int .i64 t1,.slice Ao22 t2.length co22] 25 (0,0)) (bkp B8) hb);replace HB:=hbn HB hb;clear hb;obtain⟨hcz25_0,hcz25_1,hfz25_0,hfz25_1⟩:=cf2 B8)|((with_reducible refine gate_callee (f:=15) rfl ?_);refine gl 20 Try.func15 #[.agg #[.int .i64 t1,.slice Ao22 t2.length co22],.slice Ao23 t5.length co23] ?_;(with_reducible refine(spec_EarOk.calls k t1 _ _ t2 _ _ t5 t10 _ ?side1 ?side2 ?side3 ?side4 A5.out).mono ?_);(case side1=>repeat(first|exact(Kd.R_reads' O4.out).2.2|(with_reducible refine Kd.C_alloc ?_ _)|(with_reducible refine Kd.C_drewN ?_ _)|(with_reducible refine Kd.C_drew ?_)));(case side2=>exact(Kd.R_reads' O4.out).2.1);(case side3=>repeat(first|exact(Kd.N_reads' O7.out).2.2|(with_reducible refine Kd.C_alloc ?_ _)|(with_reducible refine Kd.C_drewN ?_ _)|(with_reducible refine Kd.C_drew ?_)));(case side4=>exact(Kd.N_reads' O7.out).2.1);rintro e w26 ⟨rfl,hb⟩;refine⟨_,rfl,?_⟩;replace O4:=amk (Kd.R_below (rx O4) hb);replace O7:=amk (Kd.N_below (nx O7) hb);replace B8:=bk B8 hb;replace HB:=hbn HB hb;clear hb;obtain⟨hcz27_0,hcz27_1,hfz27_0,hfz27_1⟩:=cf2 B8))
   go_ret
   exact⟨eqx,hbx HB⟩
 replace c18:=bef c18;subst c18;rw[if_neg (show¬(false=true)by decide)]at H;obtain⟨t12,A28,H⟩:=bnda H;obtain rfl:=osi H
 go_enter Try.func3,Try.ntmps3
 go_wp2_with (first|((with_reducible refine gate_callee (f:=13) rfl ?_);refine gl 11 Try.func13 #[.slice A0 l0.length c0] ?_;(with_reducible refine(spec_DrawEarOk.calls k _ _ l0 t1 t2 t5 _ ?side1 ?side2 A3.out).mono ?_);(case side1=>repeat(first|exact HR0.out|(with_reducible refine Kd.C_alloc ?_ _)|(with_reducible refine Kd.C_drewN ?_ _)|(with_reducible refine Kd.C_drew ?_)));(case side2=>exact HC0.out);rintro e w29 ⟨v103,v106,rfl,ho0,ho1,hb⟩;refine⟨_,rfl,?_⟩;have O4:=amk (Kd.R_lower (Kd.R_mono (ok':=fun k_=>True) ho0 (fun _ hk_=>trivial)) (below_size (hbx HB)));have O7:=amk (Kd.N_lower (Kd.N_mono (ok':=fun k_=>some k_≠(v103:Value).ownBlock) ho1 (fun k_ hk_=>hk_.2)) (below_size (hbx HB)));replace HB:=hbn HB hb;clear hb ho0 ho1)|((with_reducible refine gate_dst (N:=3) rfl ?_);refine bx #[.int .i64 0,.slice none 0 0] 25 ?_;intro g8 hg w30 hbox hb;have B8:=amk hbox;have G8:=gw hg (hbx HB);have J8:=gw hg (hbx HB);replace O4:=amk (Kd.R_below (rx O4) hb);replace O7:=amk (Kd.N_below (Kd.N_elderB (nx O7) g8 (Nat.le_of_eq hg.symm)) hb);replace HB:=hbn HB hb;clear hb hbox hg;obtain⟨hcz31_0,hcz31_1,hfz31_0,hfz31_1⟩:=cf2 B8;obtain⟨Ao32,co32,eo32⟩:=Kd.R_slice O4.out;subst eo32;obtain⟨Ao33,co33,eo33⟩:=Kd.N_slice O7.out;subst eo33)|((with_reducible refine gate_callee (f:=14) rfl ?_);refine gl 16 Try.func14 #[.agg #[.int .i64 t1,.slice Ao32 t2.length co32],.slice Ao33 t5.length co33] ?_;(with_reducible refine(impl_EarOk.calls k t1 _ _ t2 _ _ t5 false _ ?side1 ?side2 ?side3 ?side4 A4.out).mono ?_);(case side1=>refine(Kd.R_reads' (e:=57) (base:=w.heap.size) (ok:=fun k_=>True) (n:=t2.length) (c:=co32) ?_).2.2;exact(by(with_reducible repeat(first|apply Kd.R_alloc|apply Kd.R_drewN|apply Kd.R_drew));exact(Kd.R_mono (Rf2 O4 B8 (.int .i64 t1) (.slice Ao32 t2.length co32)) (fun _ h_=>h_.1))));(case side2=>exact(Kd.R_reads' O4.out).2.1);(case side3=>refine(Kd.N_reads' (e:=43) (base:=w.heap.size) (ok:=fun k_=>(some k_≠(.slice Ao32 t2.length co32:Value).ownBlock∧k_≠g8)) (n:=t5.length) (c:=co33) ?_).2.2;exact(by(with_reducible repeat(first|apply Kd.N_alloc|apply Kd.N_drewN|apply Kd.N_drew));exact(Kd.N_mono (Kd.N_far (p:=⟨g8,1,none⟩) (Kd.N_far (p:=⟨g8,0,none⟩) (Kd.N_mono O7.out (fun k_ hk=>(⟨hk,hk.2⟩:_∧k_≠g8))) (fun _ hk=>hk.2) (.int .i64 t1)) (fun _ hk=>hk.2) (.slice Ao32 t2.length co32)) (fun _ h_=>h_.1))));(case side4=>exact(Kd.N_reads' O7.out).2.1);rintro e w34 ⟨rfl,hb⟩;refine⟨_,rfl,?_⟩;replace O4:=amk (Kd.R_below (by(with_reducible repeat(first|apply Kd.R_alloc|apply Kd.R_drewN|apply Kd.R_drew));exact(Kd.R_mono (Rf2 O4 B8 (.int .i64 t1) (.slice Ao32 t2.length co32)) (fun _ h_=>h_.1))) hb);replace O7:=amk (Kd.N_below (by(with_reducible repeat(first|apply Kd.N_alloc|apply Kd.N_drewN|apply Kd.N_drew));exact(Kd.N_mono (Kd.N_far (p:=⟨g8,1,none⟩) (Kd.N_far (p:=⟨g8,0,none⟩) (Kd.N_mono O7.out (fun k_ hk=>(⟨hk,hk.2⟩:_∧k_≠g8))) (fun _ hk=>hk.2) (.int .i64 t1)) (fun _ hk=>hk.2) (.slice Ao32 t2.length co32)) (fun _ h_=>h_.1))) hb);replace B8:=amk (blk_below (g:=g8) (o:= .cells #[.int .i64 t1,.slice Ao32 t2.length co32] 25 (0,0)) (bkp B8) hb);replace HB:=hbn HB hb;clear hb;obtain⟨hcz35_0,hcz35_1,hfz35_0,hfz35_1⟩:=cf2 B8)|((with_reducible refine gate_callee (f:=15) rfl ?_);refine gl 20 Try.func15 #[.agg #[.int .i64 t1,.slice Ao32 t2.length co32],.slice Ao33 t5.length co33] ?_;(with_reducible refine(spec_EarOk.calls k t1 _ _ t2 _ _ t5 t10 _ ?side1 ?side2 ?side3 ?side4 A5.out).mono ?_);(case side1=>repeat(first|exact(Kd.R_reads' O4.out).2.2|(with_reducible refine Kd.C_alloc ?_ _)|(with_reducible refine Kd.C_drewN ?_ _)|(with_reducible refine Kd.C_drew ?_)));(case side2=>exact(Kd.R_reads' O4.out).2.1);(case side3=>repeat(first|exact(Kd.N_reads' O7.out).2.2|(with_reducible refine Kd.C_alloc ?_ _)|(with_reducible refine Kd.C_drewN ?_ _)|(with_reducible refine Kd.C_drew ?_)));(case side4=>exact(Kd.N_reads' O7.out).2.1);rintro e w36 ⟨rfl,hb⟩;refine⟨_,rfl,?_⟩;replace O4:=amk (Kd.R_below (rx O4) hb);replace O7:=amk (Kd.N_below (nx O7) hb);replace B8:=bk B8 hb;replace HB:=hbn HB hb;clear hb;obtain⟨hcz37_0,hcz37_1,hfz37_0,hfz37_1⟩:=cf2 B8)|((with_reducible refine gate_callee (f:=15) rfl ?_);refine gl 29 Try.func15 #[.agg #[.int .i64 t1,.slice Ao32 t2.length co32],.slice Ao33 t5.length co33] ?_;(with_reducible refine(spec_EarOk.calls k t1 _ _ t2 _ _ t5 t12 _ ?side1 ?side2 ?side3 ?side4 A28.out).mono ?_);(case side1=>repeat(first|exact(Kd.R_reads' O4.out).2.2|(with_reducible refine Kd.C_alloc ?_ _)|(with_reducible refine Kd.C_drewN ?_ _)|(with_reducible refine Kd.C_drew ?_)));(case side2=>exact(Kd.R_reads' O4.out).2.1);(case side3=>repeat(first|exact(Kd.N_reads' O7.out).2.2|(with_reducible refine Kd.C_alloc ?_ _)|(with_reducible refine Kd.C_drewN ?_ _)|(with_reducible refine Kd.C_drew ?_)));(case side4=>exact(Kd.N_reads' O7.out).2.1);rintro e w38 ⟨rfl,hb⟩;refine⟨_,rfl,?_⟩;replace O4:=amk (Kd.R_below (rx O4) hb);replace O7:=amk (Kd.N_below (nx O7) hb);replace B8:=bk B8 hb;replace HB:=hbn HB hb;clear hb))
 go_ret
 exact⟨eqx,hbx HB⟩
def laws_FnEarCount.Pure:Prop:= ∀(l0:List Int),l0.length≤maxLen→l0.length*1≤140737488351232→(∀x∈l0,(Lit.int .u8 x).wf=true)→ ∃k,laws_FnEarCount.f k l0=some true
theorem laws_FnEarCount.walk(P:laws_FnEarCount.Pure)(a0:Option Addr)(len0 cap0:Nat)(z0:List Int)(w:World)(w0:(a0=none∧len0=0∧cap0=0∧z0=[])∨ ∃x,a0=some x∧len0≤cap0∧cap0≤maxLen∧z0.length=cap0∧(∀i,i<z0.length→w.cell? (x.add i)=some (.int .u8 (z0.getD i 0)))∧ ∀n∈z0,(Lit.int .u8 n).wf=true)(y0:len0*1≤140737488351232):
 Calls Try.prog 3 #[.slice a0 len0 cap0] w fun e w'=>e= .returned (.bool true)∧Below w.heap.size w w':=by
 obtain⟨l0,rfl,hr0,hm0,hw0,hc0⟩:=ReadsInt.ofRowC w0
 obtain⟨k,h⟩:=P l0 hm0 y0 hw0
 refine(laws_FnEarCount.calls k _ _ l0 true w (Kd.C_of_reads (d:=(0:Int)) (h1:=fun _=>rfl) hr0) hc0 h).mono ?_
 rintro e w' ⟨rfl,hd⟩
 exact⟨rfl,hd⟩
end Go.Proofs.Ytdafapiadiigcaa.P
namespace Go.Proofs.Ytdafapiadiigcaa.Pure
open Go.RowKit Go.Proofs.Ytdafapiadiigcaa.P Go.Proofs.YtdafapiadiigcaaW.PrintWords Go.Proofs.YtdafapiadiigcaaW.PrintLast
set_option linter.unusedVariables false
set_option linter.unusedSimpArgs false
def Tot{α:Type}(g:Nat→Option α)(P:α→Prop):Prop:= ∃r,Ev g r∧P r
section
variable {α β : Type} {P : α → Prop} {Q : β → Prop} {g f : Nat → Option α}
theorem Tot.ret{r:α}(h:P r):Tot (fun _=>some r) P:=⟨r,Ev.now r,h⟩
theorem Tot.bind{g:Nat→Option β}{f:Nat→β→Option α}(h:Tot g Q)(k: ∀a,Q a→Tot (fun n=>f n a) P):Tot (fun n=>(g n).bind (f n)) P:=by
  obtain⟨a,ha,hq⟩:=h
  obtain⟨r,hr,hp⟩:=k a hq
  exact⟨r,Ev.bind ha hr,hp⟩
theorem Tot.some_{b:β}{f:Nat→β→Option α}(k:Tot (fun n=>f n b) P):Tot (fun n=>(some b).bind (f n)) P:=k
theorem Tot.ite{c:Prop}[Decidable c](h:c→Tot g P)(k: ¬c→Tot f P):Tot (fun n=>if c then g n else f n) P:=by
  by_cases hc:c
  · simpa only[if_pos hc]using h hc
  · simpa only[if_neg hc]using k hc
theorem Tot.pos{c:Prop}[Decidable c](hc:c)(h:Tot g P):Tot (fun n=>if c then g n else f n) P:=by simpa only[if_pos hc]using h
theorem Tot.neg{c:Prop}[Decidable c](hc: ¬c)(h:Tot f P):Tot (fun n=>if c then g n else f n) P:=by simpa only[if_neg hc]using h
theorem Tot.mono{R:α→Prop}(h:Tot g P)(k: ∀a,P a→R a):Tot g R:=by
  obtain⟨r,hr,hp⟩:=h
  exact⟨r,hr,k r hp⟩
theorem Tot.step(h: ∀k,g (k+1)=f k)(k:Tot f P):Tot g P:=by
  obtain⟨r,hr,hp⟩:=k
  exact⟨r,Ev.step h hr,hp⟩
theorem Tot.unf(h: ∀k,g k=f k)(k:Tot f P):Tot g P:=by
  obtain⟨r,hr,hp⟩:=k
  exact⟨r,Ev.congr h hr,hp⟩
theorem Tot.rounds(h:Tot g P): ∃k r,g k=some r∧P r:=by
  obtain⟨r,hr,hp⟩:=h
  obtain⟨k,hk⟩:=hr.rounds
  exact⟨k,r,hk,hp⟩
end
theorem w_suc(m:Nat)(h:m<4611686018427387904):wrap64 ((m:Int)+1)=((m+1:Nat):Int):=by
  unfold wrap64
  omega
theorem w_pre(m:Nat)(h0:0<m)(h:m<4611686018427387904):wrap64 ((m:Int)-1)=((m-1:Nat):Int):=by
  unfold wrap64
  omega
theorem w_int(x:Int)(h0: -4611686018427387904<x)(h:x<4611686018427387904):wrap64 x=x:=by
  unfold wrap64
  omega
theorem rd_nat(xs:List Int)(m:Nat):rd xs (m:Int)=xs.getD m 0:=by simp[rd]
theorem rdT_nat(xs:List S57)(m:Nat):rd_T57 xs (m:Int)=xs.getD m z57:=by simp[rd_T57]
theorem rdL_nat(xs:List (List Int))(m:Nat):rd_L3 xs (m:Int)=xs.getD m []:=by simp[rd_L3]
theorem rdB_nat(xs:List Bool)(m:Nat):rdOf false xs (m:Int)=xs.getD m false:=by simp[rdOf]
theorem drop_cons{α:Type}(d:α)(xs:List α)(m:Nat)(h:m<xs.length):xs.drop m=xs.getD m d::xs.drop (m+1):=by
  rw[List.drop_eq_getElem_cons h]
  simp[List.getD_eq_getElem?_getD,h]
theorem has_loop(xs:List Int)(v:Int)(hl:xs.length<4611686018427387904): ∀d m,xs.length-m=d→m≤xs.length→Tot (fun k=>spec_l2Has.l0 k xs v (m:Int)) (fun b=>b=true↔v∈xs.drop m):=by
  intro d
  induction d with
  | zero=>
    intro m hd hm
    refine Tot.step (fun k=>by rw[spec_l2Has.l0]) ?_
    refine Tot.neg (by omega) (Tot.ret ?_)
    rw[List.drop_eq_nil_of_le (by omega)]
    simp
  | succ d ih=>
    intro m hd hm
    refine Tot.step (fun k=>by rw[spec_l2Has.l0]) ?_
    refine Tot.pos (by omega) (Tot.pos (by omega) ?_)
    rw[drop_cons 0 xs m (by omega),rd_nat,w_suc m (by omega)]
    refine Tot.ite (fun h=>Tot.ret (by rw[List.mem_cons];exact⟨fun _=> .inl h.symm,fun _=>rfl⟩)) (fun h=>?_)
    refine(ih (m+1) (by omega) (by omega)).mono (fun b hb=>?_)
    rw[hb,List.mem_cons]
    exact⟨.inr,fun e=>e.resolve_left (fun e=>h e.symm)⟩
theorem has_tot(xs:List Int)(v:Int)(hl:xs.length<4611686018427387904):Tot (fun k=>spec_l2Has.f k xs v) (fun b=>b=true↔v∈xs):=
  Tot.unf (fun k=>by rw[spec_l2Has.f];rfl) (has_loop xs v hl _ 0 rfl (by omega))
instance:DecidableEq S57:=fun a b=>
  if h:a.f0=b.f0∧a.f1=b.f1 then isTrue (by cases a;cases b;simp_all)else isFalse (fun e=>h (by rw[e];exact⟨rfl,rfl⟩))
def tieP(a b:Int):S57:=if a<b then⟨a,b⟩else⟨b,a⟩
theorem tieP_comm(a b:Int):tieP a b=tieP b a:=by
  unfold tieP
  by_cases h:a<b
  · rw[if_pos h,if_neg (by omega)]
  · by_cases h2:b<a
    · rw[if_neg h,if_pos h2]
    · rw[if_neg h,if_neg h2,show a=b by omega]
theorem l1Tie_eq(a b:Int):spec_l1Tie.f a b=some ((tieP a b).f0,(tieP a b).f1):=by
  unfold spec_l1Tie.f tieP
  split<;>rfl
theorem tie_eq(a b:Int):impl_tie.f a b=some ((tieP a b).f0,(tieP a b).f1):=by
  unfold impl_tie.f tieP mn mx
  by_cases h:a<b
  · simp[h,show¬b<a by omega]
  · by_cases h2:a=b
    · simp[h2]
    · simp[h,show b<a by omega]
theorem same_tie(s t:S57):((s.f0==t.f0&&(s.f1==t.f1))=true)↔s=t:=by
  rw[Bool.and_eq_true,beq_iff_eq,beq_iff_eq]
  exact⟨fun h=>by cases s;cases t;simp_all,fun h=>by rw[h];exact⟨rfl,rfl⟩⟩
theorem l6In_eq(a b c:Int):spec_l6In.f a b c=some (decide (b≤a∧a≤c)):=by
  unfold spec_l6In.f
  by_cases h:a≥b
  · rw[if_pos h]
    exact congrArg some (decide_eq_decide.mpr ⟨fun h2=>⟨h,h2⟩,fun h2=>h2.2⟩)
  · rw[if_neg h]
    exact congrArg some (decide_eq_false (fun h2=>h h2.1)).symm
def tlt(s t:S57):Prop:=s.f0<t.f0∨(s.f0=t.f0∧s.f1<t.f1)
instance(s t:S57):Decidable (tlt s t):=by unfold tlt;infer_instance
theorem l1Less_eq(s t:S57):spec_l1Less.f s.f0 s.f1 t.f0 t.f1=some (decide (tlt s t)):=by
  unfold spec_l1Less.f tlt
  by_cases h:s.f0<t.f0
  · simp[h]
  · by_cases h2:s.f0=t.f0
    · simp[h2]
    · simp[h,h2]
theorem tieHas_loop(n:Int)(ts:List S57)(a b:Int)(hl:ts.length<4611686018427387904): ∀d m,ts.length-m=d→m≤ts.length→Tot (fun k=>spec_l1Has.l0 k a b (m:Int) n ts) (fun r=>r=true↔tieP a b∈ts.drop m):=by
  intro d
  induction d with
  | zero=>
    intro m hd hm
    refine Tot.step (fun k=>by rw[spec_l1Has.l0]) ?_
    refine Tot.neg (by omega) (Tot.ret ?_)
    rw[List.drop_eq_nil_of_le (by omega)]
    simp
  | succ d ih=>
    intro m hd hm
    refine Tot.step (fun k=>by rw[spec_l1Has.l0]) ?_
    refine Tot.pos (by omega) (Tot.pos (by omega) ?_)
    rw[l1Tie_eq]
    refine Tot.some_ ?_
    rw[drop_cons z57 ts m (by omega),rdT_nat,w_suc m (by omega)]
    refine Tot.ite (fun h=>Tot.ret ?_) (fun h=>?_)
    · rw[List.mem_cons,(same_tie _ _).mp h]
      exact⟨fun _=> .inl rfl,fun _=>rfl⟩
    refine(ih (m+1) (by omega) (by omega)).mono (fun r hr=>?_)
    rw[hr,List.mem_cons]
    exact⟨.inr,fun e=>e.resolve_left (fun e=>h ((same_tie _ _).mpr e.symm))⟩
theorem tieHas_tot(n:Int)(ts:List S57)(a b:Int)(hl:ts.length<4611686018427387904):Tot (fun k=>spec_l1Has.f k n ts a b) (fun r=>r=true↔tieP a b∈ts):=
  Tot.unf (fun k=>by rw[spec_l1Has.f];rfl) (tieHas_loop n ts a b hl _ 0 rfl (by omega))
def InN(n:Int)(t:S57):Prop:=0≤t.f0∧t.f0<t.f1∧t.f1<n
instance(n:Int)(t:S57):Decidable (InN n t):=by unfold InN;infer_instance
def stepOk(n:Int)(ts:List S57)(j:Nat):Prop:=InN n (ts.getD j z57)∧(0<j→tlt (ts.getD (j-1) z57) (ts.getD j z57))
def NetOkP(n:Int)(ts:List S57):Prop:=0≤n∧n≤8∧ ∀j,j<ts.length→stepOk n ts j
theorem netOk_key{n:Int}{ts:List S57}(h:NetOkP n ts): ∀j,j<ts.length→(j:Int)≤(ts.getD j z57).f0*8+(ts.getD j z57).f1-1:=by
  intro j
  induction j with
  | zero=>
    intro hj
    have:=(h.2.2 0 hj).1
    unfold InN at this
    omega
  | succ j ih=>
    intro hj
    have h1:=ih (by omega)
    have h2:=(h.2.2 (j+1) hj).1
    have h3:=(h.2.2 (j+1) hj).2 (by omega)
    have h4:=(h.2.2 j (by omega)).1
    have h5:=h.2.1
    rw[show j+1-1=j by omega]at h3
    unfold tlt at h3
    unfold InN at h2 h4
    omega
theorem netOk_len{n:Int}{ts:List S57}(h:NetOkP n ts):ts.length≤64:=by
  by_cases h0:ts.length=0
  · omega
  have h1:=netOk_key h (ts.length-1) (by omega)
  have h2:=(h.2.2 (ts.length-1) (by omega)).1
  have h3:=h.2.1
  unfold InN at h2
  omega
theorem netOk_loop(n:Int)(ts:List S57)(h0:0≤n)(h8:n≤8)(hl:ts.length≤64): ∀d m,ts.length-m=d→m≤ts.length→Tot (fun k=>spec_NetOk.l0 k (m:Int) n ts) (fun r=>r=true↔ ∀j,m≤j→j<ts.length→stepOk n ts j):=by
  intro d
  induction d with
  | zero=>
    intro m hd hm
    refine Tot.step (fun k=>by rw[spec_NetOk.l0]) ?_
    refine Tot.neg (by omega) (Tot.ret ?_)
    exact⟨fun _ j h1 h2=>by omega,fun _=>rfl⟩
  | succ d ih=>
    intro m hd hm
    refine Tot.step (fun k=>by rw[spec_NetOk.l0]) ?_
    refine Tot.pos (by omega) (Tot.pos (by omega) ?_)
    rw[l6In_eq,rdT_nat,w_int (n-1) (by omega) (by omega)]
    refine Tot.some_ (Tot.ite (fun h=>?_) (fun h=>Tot.ret ?_))
    rotate_left
    · exact⟨fun e=>(by cases e),fun e=>absurd (decide_eq_true (by have:=(e m (by omega) (by omega)).1;unfold InN at this;omega)) h⟩
    have hA:=of_decide_eq_true h
    rw[l6In_eq,w_int _ (by omega) (by omega)]
    refine Tot.some_ (Tot.ite (fun h=>?_) (fun h=>Tot.ret ?_))
    rotate_left
    · exact⟨fun e=>(by cases e),fun e=>absurd (decide_eq_true (by have:=(e m (by omega) (by omega)).1;unfold InN at this;omega)) h⟩
    have hB:=of_decide_eq_true h
    have hIn:InN n (ts.getD m z57):=by unfold InN;omega
    have hnext:(m=0∨tlt (ts.getD (m-1) z57) (ts.getD m z57))→Tot (fun k=>spec_NetOk.l0 k (wrap64 ((m:Int)+1)) n ts) (fun r=>r=true↔ ∀j,m≤j→j<ts.length→stepOk n ts j):=by
      intro hp
      rw[w_suc m (by omega)]
      refine(ih (m+1) (by omega) (by omega)).mono (fun r hr=>?_)
      rw[hr]
      refine⟨fun e j h1 h2=>?_,fun e j h1 h2=>e j (by omega) h2⟩
      by_cases hj:j=m
      · subst hj
        exact⟨hIn,fun h=>hp.resolve_left (by omega)⟩
      · exact e j (by omega) h2
    refine Tot.ite (fun h=>?_) (fun h=>hnext (.inl (by omega)))
    rw[w_pre m (by omega) (by omega)]
    refine Tot.pos (by omega) (Tot.pos (by omega) ?_)
    rw[rdT_nat,l1Less_eq]
    refine Tot.some_ (Tot.ite (fun h=>hnext (.inr (of_decide_eq_true h))) (fun h=>Tot.ret ?_))
    exact⟨fun e=>(by cases e),fun e=>absurd (decide_eq_true ((e m (by omega) (by omega)).2 (by omega))) h⟩
theorem netOk_tot(n:Int)(ts:List S57):Tot (fun k=>spec_NetOk.f k n ts) (fun r=>r=true↔NetOkP n ts):=by
  refine Tot.unf (fun k=>by rw[spec_NetOk.f]) ?_
  rw[l6In_eq]
  refine Tot.some_ (Tot.ite (fun h=>?_) (fun h=>?_))
  · have h:=of_decide_eq_true h
    refine Tot.step (fun k=>by rw[spec_NetOk.j0]) (Tot.ite (fun h2=>Tot.ret ?_) (fun h2=>?_))
    · exact⟨fun e=>(by cases e),fun e=>absurd (netOk_len e) (by have:=of_decide_eq_true h2;omega)⟩
    · have h2:ts.length≤64:=by
        have:=mt (decide_eq_true (p:=(ts.length:Int)>64)) h2
        omega
      refine(netOk_loop n ts h.1 h.2 h2 _ 0 rfl (by omega)).mono (fun r hr=>?_)
      rw[hr]
      exact⟨fun e=>⟨h.1,h.2,fun j hj=>e j (by omega) hj⟩,fun e j _ hj=>e.2.2 j hj⟩
  · refine Tot.step (fun k=>by rw[spec_NetOk.j0]) (Tot.pos rfl (Tot.ret ?_))
    exact⟨fun e=>(by cases e),fun e=>absurd (decide_eq_true ⟨e.1,e.2.1⟩) h⟩
theorem l1Knot_tot(n:Int)(ts:List S57)(a:Int):Tot (fun k=>spec_l1Knot.f k n ts a) (fun r=>r=true↔NetOkP n ts∧0≤a∧a<n):=by
  refine Tot.unf (fun k=>by rw[spec_l1Knot.f]) ?_
  refine Tot.bind (netOk_tot n ts) (fun b hb=>Tot.ite (fun h=>?_) (fun h=>Tot.ret ?_))
  · have hn:=hb.mp h
    rw[l6In_eq,w_int (n-1) (by have:=hn.1;omega) (by have:=hn.2.1;omega)]
    refine Tot.some_ (Tot.ret ?_)
    rw[decide_eq_true_iff]
    exact⟨fun e=>⟨hn,e.1,by omega⟩,fun e=>⟨e.2.1,by omega⟩⟩
  · exact⟨fun e=>(by cases e),fun e=>absurd (hb.mpr e.1) h⟩
theorem netHas_tot(n:Int)(ts:List S57)(a b:Int):Tot (fun k=>spec_NetHas.f k n ts a b) (fun r=>r=true↔NetOkP n ts∧tieP a b∈ts):=by
  refine Tot.unf (fun k=>by rw[spec_NetHas.f]) ?_
  refine Tot.bind (netOk_tot n ts) (fun c hc=>Tot.ite (fun h=>?_) (fun h=>Tot.ret ?_))
  · have hn:=hc.mp h
    refine Tot.bind (tieHas_tot n ts a b (by have:=netOk_len hn;omega)) (fun r hr=>Tot.ret ?_)
    rw[hr]
    exact⟨fun e=>⟨hn,e⟩,fun e=>e.2⟩
  · exact⟨fun e=>(by cases e),fun e=>absurd (hc.mpr e.1) h⟩
def openE(e:List Int):Prop:=0<e.length∧e.getD 0 0≠e.getD (e.length-1) 0
def freshAt(n:Int)(ts taken:List S57)(knots e:List Int)(j:Nat):Prop:=
  0≤e.getD j 0∧e.getD j 0<n∧(0<j→j+1<e.length→e.getD j 0∉knots∧e.getD j 0∉e.take j)∧
  (0<j→tieP (e.getD (j-1) 0) (e.getD j 0)∈ts∧tieP (e.getD (j-1) 0) (e.getD j 0)∉taken)
def Fresh(n:Int)(ts taken:List S57)(knots e:List Int)(first:Bool):Prop:=
  2≤e.length∧(first=true→ ¬openE e∧4≤e.length)∧
  (first=false→e.getD 0 0∈knots∧e.getD (e.length-1) 0∈knots∧(openE e∨4≤e.length))∧
  ∀j,j<e.length→freshAt n ts taken knots e j
def tiesOf:List Int→List S57
  |[]=>[]
  |[_]=>[]
  |a::b::r=>tieP a b::tiesOf (b::r)
def addK(ks:List Int):List Int→List Int
  |[]=>ks
  |v::r=>addK (if v∈ks then ks else ks++[v]) r
def EarsFrom(n:Int)(ts:List S57):List S57→List Int→Bool→List (List Int)→Prop
  |taken,knots,_,[]=>taken.length=ts.length∧(knots.length:Int)=n
  |taken,knots,first,e::r=>Fresh n ts taken knots e first∧EarsFrom n ts (taken++tiesOf e) (addK knots e) false r
def EarsOk(n:Int)(ts:List S57)(ears:List (List Int)):Prop:=
  NetOkP n ts∧1≤ears.length∧ears.length≤ts.length∧EarsFrom n ts [] [] true ears
theorem tiesOf_len: ∀e:List Int,(tiesOf e).length=e.length-1
  |[]=>rfl
  |[_]=>rfl
  | a::b::r=>by
    rw[tiesOf,List.length_cons,tiesOf_len (b::r)]
    simp
theorem addK_len: ∀(e ks:List Int),(addK ks e).length≤ks.length+e.length
  |[],ks=>by simp[addK]
  | v ::r,ks=>by
    rw[addK,List.length_cons]
    refine Nat.le_trans (addK_len r _) ?_
    split
    · omega
    · rw[List.length_append,List.length_singleton]
      omega
theorem getD_get{α:Type}(xs:List α)(i:Nat)(d:α)(h:i<xs.length):xs.getD i d=xs[i]:=by simp[List.getD_eq_getElem?_getD,h]
theorem drop_pre(e:List Int)(m:Nat)(h0:0<m)(h:m<e.length):tiesOf (e.drop (m-1))=tieP (e.getD (m-1) 0) (e.getD m 0)::tiesOf (e.drop m):=by
  rw[drop_cons 0 e (m-1) (by omega),show m-1+1=m by omega,drop_cons 0 e m h,tiesOf]
theorem open_tot(e:List Int)(hl:e.length<4611686018427387904): ∃b,spec_l22Open.f e=some b∧(b=true↔openE e):=by
  unfold spec_l22Open.f openE
  by_cases h:(e.length:Int)>0
  · rw[if_pos h,if_pos (by omega),w_pre _ (by omega) (by omega),if_pos (by omega),if_pos (by omega)]
    refine⟨_,rfl,?_⟩
    rw[show rd e 0=e.getD 0 0 from rfl,rd_nat]
    simp only[bne_iff_ne]
    exact⟨fun h2=>⟨by omega,h2⟩,fun h2=>h2.2⟩
  · rw[if_neg h]
    exact⟨_,rfl,fun e=>(by cases e),fun h2=>absurd h2.1 (by omega)⟩
theorem taken_loop(n:Int)(ts taken:List S57)(knots e:List Int)(j:Nat)(h0:0<j)(hj:j<e.length)(hl:taken.length<4611686018427387904)(he:e.length<4611686018427387904){P:Bool→Prop}
    (hno:tieP (e.getD (j-1) 0) (e.getD j 0)∈taken→P false)
    (hyes:tieP (e.getD (j-1) 0) (e.getD j 0)∉taken→Tot (fun k=>spec_l22Fresh.l0 k taken knots e ((j+1:Nat):Int) n ts) P):
    ∀d m,taken.length-m=d→m≤taken.length→(∀i,i<m→taken.getD i z57≠tieP (e.getD (j-1) 0) (e.getD j 0))→Tot (fun k=>spec_l22Fresh.l1 k taken knots e (j:Int) (m:Int) n ts) P:=by
  intro d
  induction d with
  | zero=>
    intro m hd hm hb
    refine Tot.step (fun k=>by rw[spec_l22Fresh.l1]) ?_
    refine Tot.neg (by omega) ?_
    rw[w_suc j (by omega)]
    refine hyes (fun hmem=>?_)
    obtain⟨i,hi,hx⟩:=List.getElem_of_mem hmem
    exact hb i (by omega) (by rw[getD_get _ _ _ hi];exact hx)
  | succ d ih=>
    intro m hd hm hb
    refine Tot.step (fun k=>by rw[spec_l22Fresh.l1]) ?_
    refine Tot.pos (by omega) (Tot.pos (by omega) ?_)
    rw[w_pre j h0 (by omega)]
    refine Tot.pos (by omega) (Tot.pos (by omega) (Tot.pos (by omega) (Tot.pos (by omega) ?_)))
    rw[rd_nat,rd_nat,rdT_nat,l1Tie_eq]
    refine Tot.some_ (Tot.ite (fun h=>Tot.ret (hno ?_)) (fun h=>?_))
    · rw[←(same_tie _ _).mp h,getD_get _ _ _ (by omega)]
      exact List.getElem_mem _
    · rw[w_suc m (by omega)]
      refine ih (m+1) (by omega) (by omega) (fun i hi=>?_)
      by_cases e2:i=m
      · rw[e2]
        exact fun e3=>h ((same_tie _ _).mpr e3)
      · exact hb i (by omega)
theorem fresh_loop(n:Int)(ts taken:List S57)(knots e:List Int)(hn:NetOkP n ts)(ht:taken.length<4611686018427387904)(hk:knots.length<4611686018427387904)(he:e.length<4611686018427387904):
    ∀d j,e.length-j=d→j≤e.length→Tot (fun k=>spec_l22Fresh.l0 k taken knots e (j:Int) n ts) (fun b=>b=true↔ ∀i,j≤i→i<e.length→freshAt n ts taken knots e i):=by
  intro d
  induction d with
  | zero=>
    intro j hd hj
    refine Tot.step (fun k=>by rw[spec_l22Fresh.l0]) ?_
    refine Tot.neg (by omega) (Tot.ret ?_)
    exact⟨fun _ i h1 h2=>by omega,fun _=>rfl⟩
  | succ d ih=>
    intro j hd hj
    have hbad: ¬freshAt n ts taken knots e j→(false=true↔ ∀i,j≤i→i<e.length→freshAt n ts taken knots e i):=fun h=>⟨fun e=>(by cases e),fun h2=>absurd (h2 j (by omega) (by omega)) h⟩
    have h3: ∀b:Bool,0≤e.getD j 0→e.getD j 0<n→(b=false→0<j→j+1<e.length→e.getD j 0∉knots∧e.getD j 0∉e.take j)→(b=true→ ¬freshAt n ts taken knots e j)→
        Tot (fun k=>spec_l22Fresh.j3 k taken knots e (j:Int) b n ts) (fun b=>b=true↔ ∀i,j≤i→i<e.length→freshAt n ts taken knots e i):=by
      intro b g0 g1 hf hbd
      refine Tot.step (fun k=>by rw[spec_l22Fresh.j3]) (Tot.ite (fun h=>Tot.ret (hbad (hbd h))) (fun h=>?_))
      have hf:=hf (by simpa using h)
      have hgo:(0<j→tieP (e.getD (j-1) 0) (e.getD j 0)∈ts∧tieP (e.getD (j-1) 0) (e.getD j 0)∉taken)→Tot (fun k=>spec_l22Fresh.l0 k taken knots e ((j+1:Nat):Int) n ts) (fun b=>b=true↔ ∀i,j≤i→i<e.length→freshAt n ts taken knots e i):=by
        intro ht2
        refine(ih (j+1) (by omega) (by omega)).mono (fun r hr=>?_)
        rw[hr]
        refine⟨fun h2 i h3 h4=>?_,fun h2 i h3 h4=>h2 i (by omega) h4⟩
        by_cases e2:i=j
        · rw[e2]
          exact⟨g0,g1,hf,ht2⟩
        · exact h2 i (by omega) h4
      refine Tot.ite (fun h=>?_) (fun h=>?_)
      · rw[w_suc j (by omega)]
        exact hgo (fun h2=>by omega)
      · rw[w_pre j (by omega) (by omega)]
        refine Tot.pos (by omega) (Tot.pos (by omega) (Tot.pos (by omega) (Tot.pos (by omega) ?_)))
        rw[rd_nat,rd_nat]
        refine Tot.bind (netHas_tot n ts _ _) (fun b2 hb2=>Tot.ite (fun h2=>?_) (fun h2=>Tot.ret (hbad (fun hc=>h2 (hb2.mpr ⟨hn,(hc.2.2.2 (by omega)).1⟩)))))
        refine taken_loop n ts taken knots e j (by omega) (by omega) ht he (fun hm=>hbad (fun hc=>(hc.2.2.2 (by omega)).2 hm)) (fun hm=>hgo (fun _=>⟨(hb2.mp h2).2,hm⟩)) _ 0 rfl (by omega) (fun i hi=>by omega)
    have h2 : ∀b:Bool,(b=true↔0<j∧j+1<e.length)→Tot (fun k=>spec_l22Fresh.j2 k taken knots e (j:Int) b n ts) (fun b=>b=true↔ ∀i,j≤i→i<e.length→freshAt n ts taken knots e i):=by
      intro b hb
      refine Tot.step (fun k=>by rw[spec_l22Fresh.j2]) (Tot.pos (by omega) (Tot.pos (by omega) ?_))
      rw[rd_nat]
      refine Tot.bind (l1Knot_tot n ts _) (fun c hc=>Tot.ite (fun h=>?_) (fun h=>?_))
      · have hc:=hc.mp h
        refine Tot.ite (fun hbt=>?_) (fun hbf=>?_)
        · have hb:=hb.mp hbt
          refine Tot.bind (has_tot knots _ hk) (fun c2 hc2=>Tot.ite (fun h4=>?_) (fun h4=>?_))
          · exact h3 true hc.2.1 hc.2.2 (fun h=>by cases h) (fun _ hx=>(hx.2.2.1 hb.1 hb.2).1 (hc2.mp h4))
          · refine Tot.pos (by omega) ?_
            rw[show((j:Int)).toNat=j by omega]
            refine Tot.bind (has_tot (e.take j) _ (by rw[List.length_take];omega)) (fun c3 hc3=>?_)
            refine h3 c3 hc.2.1 hc.2.2 (fun h _ _=>⟨fun hm=>h4 (hc2.mpr hm),fun hm=>?_⟩) (fun h hx=>(hx.2.2.1 hb.1 hb.2).2 (hc3.mp h))
            rw[hc3.mpr hm]at h
            cases h
        · exact h3 false hc.2.1 hc.2.2 (fun _ q1 q2=>absurd (hb.mpr ⟨q1,q2⟩) hbf) (fun h=>by cases h)
      · refine Tot.step (fun k=>by rw[spec_l22Fresh.j3]) (Tot.pos rfl (Tot.ret (hbad (fun hx=>h (hc.mpr ⟨hn,hx.1,hx.2.1⟩)))))
    refine Tot.step (fun k=>by rw[spec_l22Fresh.l0]) (Tot.pos (by omega) ?_)
    rw[w_suc j (by omega)]
    refine Tot.ite (fun h=>h2 _ ?_) (fun h=>h2 _ ?_)
    · rw[decide_eq_true_iff]
      omega
    · exact⟨fun e=>(by cases e),fun e=>absurd e.1 (by omega)⟩
theorem fresh_tot(n:Int)(ts taken:List S57)(knots e:List Int)(first:Bool)(hn:NetOkP n ts)(ht:taken.length<4611686018427387904)(hk:knots.length<4611686018427387904)(he:e.length<4611686018427387904):
    Tot (fun k=>spec_l22Fresh.f k n ts taken knots e first) (fun b=>b=true↔Fresh n ts taken knots e first):=by
  have hno: ¬Fresh n ts taken knots e first→Tot (fun k=>spec_l22Fresh.j0 k taken knots e true n ts) (fun b=>b=true↔Fresh n ts taken knots e first):=fun h=>
    Tot.step (fun k=>by rw[spec_l22Fresh.j0]) (Tot.pos rfl (Tot.ret ⟨fun e=>(by cases e),fun e=>absurd e h⟩))
  have hgo: ∀b:Bool,(b=false→2≤e.length∧(first=true→ ¬openE e∧4≤e.length)∧(first=false→e.getD 0 0∈knots∧e.getD (e.length-1) 0∈knots∧(openE e∨4≤e.length)))→(b=true→ ¬Fresh n ts taken knots e first)→
      Tot (fun k=>spec_l22Fresh.j0 k taken knots e b n ts) (fun b=>b=true↔Fresh n ts taken knots e first):=by
    intro b h1 h2
    cases b with
    |true=>exact hno (h2 rfl)
    | false=>
      have h1:=h1 rfl
      refine Tot.step (fun k=>by rw[spec_l22Fresh.j0]) (Tot.neg (by simp) ?_)
      refine(fresh_loop n ts taken knots e hn ht hk he _ 0 rfl (by omega)).mono (fun r hr=>?_)
      rw[hr]
      exact⟨fun h=>⟨h1.1,h1.2.1,h1.2.2,fun j hj=>h j (by omega) hj⟩,fun h j _ hj=>h.2.2.2 j hj⟩
  obtain⟨bo,hbo,ho⟩:=open_tot e he
  refine Tot.unf (fun k=>by rw[spec_l22Fresh.f]) ?_
  refine Tot.ite (fun h=>hno (fun hf=>by have:=hf.1;omega)) (fun h=>?_)
  refine Tot.ite (fun hf=>?_) (fun hf=>?_)
  · rw[hbo]
    refine Tot.some_ (Tot.ite (fun h2=>hno (fun hx=>(hx.2.1 hf).1 (ho.mp h2))) (fun h2=>?_))
    refine Tot.ite (fun h3=>hno (fun hx=>by have:=(hx.2.1 hf).2;omega)) (fun h3=>?_)
    refine Tot.some_ (Tot.neg h2 ?_)
    refine hgo _ (fun _=>⟨by omega,fun _=>⟨fun hx=>h2 (ho.mpr hx),by omega⟩,fun h4=>by rw[hf]at h4;cases h4⟩) (fun h4=>?_)
    rw[decide_eq_true_iff]at h4
    omega
  · have hf:first=false:=by simpa using hf
    refine Tot.pos (by omega) ?_
    rw[show rd e 0=e.getD 0 0 from rfl]
    refine Tot.bind (has_tot knots _ hk) (fun b1 hb1=>Tot.ite (fun h1=>?_) (fun h1=>hno (fun hx=>h1 (hb1.mpr (hx.2.2.1 hf).1))))
    rw[w_pre _ (by omega) (by omega)]
    refine Tot.pos (by omega) (Tot.pos (by omega) ?_)
    rw[rd_nat]
    refine Tot.bind (has_tot knots _ hk) (fun b2 hb2=>Tot.ite (fun h2=>?_) (fun h2=>hno (fun hx=>h2 (hb2.mpr (hx.2.2.1 hf).2.1))))
    rw[hbo]
    refine Tot.some_ (Tot.ite (fun h3=>?_) (fun h3=>?_))
    · exact hgo false (fun _=>⟨by omega,fun h4=>(by rw[hf]at h4;cases h4),fun _=>⟨hb1.mp h1,hb2.mp h2,.inl (ho.mp h3)⟩⟩) (fun h4=>by cases h4)
    · refine hgo _ (fun h4=>?_) (fun h4=>?_)
      · rw[decide_eq_false_iff_not]at h4
        exact⟨by omega,fun h5=>(by rw[hf]at h5;cases h5),fun _=>⟨hb1.mp h1,hb2.mp h2,.inr (by omega)⟩⟩
      · rw[decide_eq_true_iff]at h4
        intro hx
        rcases(hx.2.2.1 hf).2.2 with h5|h5
        · exact h3 (ho.mpr h5)
        · omega
theorem addK_cons(ks:List Int)(v:Int)(r:List Int):addK ks (v::r)=addK (if v∈ks then ks else ks++[v]) r:=rfl
theorem push_loop(n:Int)(ts:List S57)(ears:List (List Int))(i:Nat)(hi:i<ears.length)(e:List Int)(he:ears.getD i []=e)(hl:e.length<1099511627776)(hE:ears.length<1099511627776){P:Bool→Prop}:
    ∀d m (taken:List S57) (knots:List Int),e.length-m=d→m≤e.length→taken.length+(e.length-m)<1099511627776→knots.length+(e.length-m)<1099511627776→
    Tot (fun k=>spec_EarOk.l0 k ears (taken++tiesOf (e.drop (m-1))) (addK knots (e.drop m)) ((i+1:Nat):Int) n ts) P→
    (0<m∨m=0)→Tot (fun k=>spec_EarOk.l1 k ears taken knots (i:Int) (m:Int) n ts) P:=by
  intro d
  induction d with
  | zero=>
    intro m taken knots hd hm ht hk h _
    refine Tot.step (fun k=>by rw[spec_EarOk.l1]) (Tot.pos (by omega) (Tot.pos (by omega) ?_))
    rw[rdL_nat,he]
    refine Tot.neg (by omega) ?_
    rw[w_suc i (by omega)]
    have e1:tiesOf (e.drop (m-1))=[]:=by
      have:(e.drop (m-1)).length≤1:=by rw[List.length_drop];omega
      match hx:e.drop (m-1),this with
      |[],_=>rfl
      |[_],_=>rfl
    rw[e1,List.append_nil,List.drop_eq_nil_of_le (by omega)]at h
    exact h
  | succ d ih=>
    intro m taken knots hd hm ht hk h _
    refine Tot.step (fun k=>by rw[spec_EarOk.l1]) (Tot.pos (by omega) (Tot.pos (by omega) ?_))
    rw[rdL_nat,he]
    refine Tot.pos (by omega) ?_
    rw[drop_cons 0 e m (by omega),addK_cons]at h
    refine Tot.ite (fun h0=>?_) (fun h0=>?_)
    · rw[w_pre m (by omega) (by omega)]
      refine Tot.pos (by omega) (Tot.pos (by omega) (Tot.pos (by omega) ?_))
      rw[rd_nat,rd_nat,l1Tie_eq]
      refine Tot.some_ (Tot.pos (by omega) (Tot.some_ ?_))
      rw[drop_pre e m (by omega) (by omega),List.append_cons]at h
      rw[w_suc m (by omega)]
      refine Tot.bind (has_tot knots _ (by omega)) (fun b hb=>Tot.ite (fun h2=>?_) (fun h2=>?_))
      · rw[if_pos (hb.mp h2)]at h
        exact ih (m+1) _ knots (by omega) (by omega) (by rw[List.length_append,List.length_singleton];omega) (by omega) h (.inl (by omega))
      · rw[if_neg (fun h3=>h2 (hb.mpr h3))]at h
        exact Tot.pos (by omega) (ih (m+1) _ _ (by omega) (by omega) (by rw[List.length_append,List.length_singleton];omega) (by rw[List.length_append,List.length_singleton];omega) h (.inl (by omega)))
    · obtain rfl:m=0:=by omega
      refine Tot.pos (by omega) ?_
      rw[rd_nat,w_suc 0 (by omega)]
      refine Tot.bind (has_tot knots _ (by omega)) (fun b hb=>Tot.ite (fun h2=>?_) (fun h2=>?_))
      · rw[if_pos (hb.mp h2)]at h
        exact ih 1 _ knots (by omega) (by omega) (by omega) (by omega) h (.inl (by omega))
      · rw[if_neg (fun h3=>h2 (hb.mpr h3))]at h
        exact Tot.pos (by omega) (ih 1 _ _ (by omega) (by omega) (by omega) (by rw[List.length_append,List.length_singleton];omega) h (.inl (by omega)))
def sumLen:List (List Int)→Nat
  |[]=>0
  |e::r=>e.length+sumLen r
theorem ears_loop(n:Int)(ts:List S57)(ears:List (List Int))(hn:NetOkP n ts)(hE:ears.length<1099511627776):
    ∀d i (taken:List S57) (knots:List Int),ears.length-i=d→i≤ears.length→taken.length+sumLen (ears.drop i)<1099511627776→knots.length+sumLen (ears.drop i)<1099511627776→
    Tot (fun k=>spec_EarOk.l0 k ears taken knots (i:Int) n ts) (fun b=>b=true↔EarsFrom n ts taken knots (decide (i=0)) (ears.drop i)):=by
  intro d
  induction d with
  | zero=>
    intro i taken knots hd hi ht hk
    refine Tot.step (fun k=>by rw[spec_EarOk.l0]) (Tot.neg (by omega) ?_)
    rw[List.drop_eq_nil_of_le (by omega)]
    unfold EarsFrom
    refine Tot.ite (fun h=>Tot.ret ?_) (fun h=>Tot.ret ?_)
    · rw[beq_iff_eq]
      exact⟨fun h2=>⟨by omega,h2⟩,fun h2=>h2.2⟩
    · exact⟨fun e=>(by cases e),fun e=>absurd e.1 (by omega)⟩
  | succ d ih=>
    intro i taken knots hd hi ht hk
    refine Tot.step (fun k=>by rw[spec_EarOk.l0]) (Tot.pos (by omega) (Tot.pos (by omega) ?_))
    rw[drop_cons [] ears i (by omega)]at ht hk⊢
    rw[sumLen]at ht hk
    rw[EarsFrom,rdL_nat,show(((i:Int)==0))=decide (i=0)from by
      rw[Bool.eq_iff_iff,beq_iff_eq,decide_eq_true_iff]
      omega]
    refine Tot.bind (fresh_tot n ts taken knots (ears.getD i []) _ hn (by omega) (by omega) (by omega)) (fun b hb=>Tot.ite (fun h=>?_) (fun h=>Tot.ret ⟨fun e=>(by cases e),fun e=>absurd (hb.mpr e.1) h⟩))
    have hl:=tiesOf_len (ears.getD i [])
    have hk2:=addK_len (ears.getD i []) knots
    refine push_loop n ts ears i (by omega) _ rfl (by omega) hE _ 0 taken knots rfl (by omega) (by omega) (by omega) ?_ (.inr rfl)
    refine(ih (i+1) (taken++tiesOf (ears.getD i [])) (addK knots (ears.getD i [])) (by omega) (by omega) (by rw[List.length_append];omega) (by omega)).mono (fun r hr=>?_)
    rw[hr,decide_eq_false (by omega)]
    exact⟨fun h2=>⟨hb.mp h,h2⟩,fun h2=>h2.2⟩
theorem specEarOk_tot(n:Int)(ts:List S57)(ears:List (List Int))(hE:ears.length<1099511627776)(hS:sumLen ears<1099511627776):
    Tot (fun k=>spec_EarOk.f k n ts ears) (fun b=>b=true↔EarsOk n ts ears):=by
  have hno: ¬EarsOk n ts ears→Tot (fun k=>spec_EarOk.j0 k ears true n ts) (fun b=>b=true↔EarsOk n ts ears):=fun h=>
    Tot.step (fun k=>by rw[spec_EarOk.j0]) (Tot.pos rfl (Tot.ret ⟨fun e=>(by cases e),fun e=>absurd e h⟩))
  refine Tot.unf (fun k=>by rw[spec_EarOk.f]) ?_
  refine Tot.bind (netOk_tot n ts) (fun b hb=>Tot.ite (fun h=>?_) (fun h=>hno (fun hx=>h (hb.mpr hx.1))))
  have hn:=hb.mp h
  refine Tot.ite (fun h1=>hno (fun hx=>by have:=hx.2.1;omega)) (fun h1=>?_)
  by_cases h2:(ears.length:Int)>(ts.length:Int)
  · rw[decide_eq_true h2]
    exact hno (fun hx=>by have:=hx.2.2.1;omega)
  · rw[decide_eq_false h2]
    refine Tot.step (fun k=>by rw[spec_EarOk.j0]) (Tot.neg (by simp) ?_)
    refine(ears_loop n ts ears hn hE _ 0 [] [] rfl (by omega) (by simpa using hS) (by simpa using hS)).mono (fun r hr=>?_)
    rw[hr]
    exact⟨fun h3=>⟨hn,by omega,by omega,h3⟩,fun h3=>h3.2.2.2⟩
theorem compare_eq(a b:Int):cmp_Compare_int.f a b=some (if a<b then-1 else if a>b then 1 else 0):=by
  unfold cmp_Compare_int.f cmp_isNaN_int.f
  simp only[bne_self_eq_false,Option.bind_some,Bool.false_eq_true,if_false]
  split
  · rfl
  · split<;>rfl
theorem or2_tot(a b:Int):Tot (fun k=>cmp_Or_int.f k [a,b]) (fun r=>r=if a=0 then b else a):=by
  refine Tot.unf (fun k=>by rw[cmp_Or_int.f]) ?_
  refine Tot.step (fun k=>by rw[cmp_Or_int.l0]) (Tot.pos (by simp) (Tot.pos (by omega) (Tot.pos (by simp) ?_)))
  rw[show rd [a,b] 0=a from rfl]
  refine Tot.ite (fun h=>?_) (fun h=>Tot.ret (by rw[if_neg h]))
  rw[show wrap64 (0+1)=1 from by unfold wrap64;omega]
  refine Tot.step (fun k=>by rw[cmp_Or_int.l0]) (Tot.pos (by simp) (Tot.pos (by omega) (Tot.pos (by simp) ?_)))
  rw[show rd [a,b] 1=b from rfl]
  refine Tot.ite (fun h2=>?_) (fun h2=>Tot.ret (by rw[if_pos h]))
  rw[show wrap64 (1+1)=2 from by unfold wrap64;omega]
  refine Tot.step (fun k=>by rw[cmp_Or_int.l0]) (Tot.neg (by simp) (Tot.ret (by rw[if_pos h,h2])))
theorem tieOrder_tot(s t:S57):Tot (fun k=>impl_tieOrder.f k s.f0 s.f1 t.f0 t.f1) (fun r=>r≥0↔ ¬tlt s t):=by
  refine Tot.unf (fun k=>by rw[impl_tieOrder.f]) ?_
  rw[compare_eq,compare_eq]
  refine Tot.some_ (Tot.some_ (Tot.bind (or2_tot _ _) (fun r hr=>Tot.ret ?_)))
  rw[hr]
  unfold tlt
  by_cases h1:s.f0<t.f0
  · simp[h1]
  · by_cases h2:s.f0>t.f0
    · have h3: ¬s.f0=t.f0:=by omega
      simp[h1,h2,h3]
    · have h3:s.f0=t.f0:=by omega
      simp only[h1,h2,if_false,h3,if_true,Int.lt_irrefl,false_or,true_and]
      by_cases h4:s.f1<t.f1
      · simp[h4]
      · by_cases h5:t.f1<s.f1
        · simp[h4,h5]
        · simp[h4,h5]
theorem ascending_loop(ts:List S57)(hl:ts.length<1099511627776): ∀d m,ts.length-m=d→0<m→Tot (fun k=>impl_ascending.l0 k ts (m:Int)) (fun b=>b=true↔ ∀j,m≤j→j<ts.length→tlt (ts.getD (j-1) z57) (ts.getD j z57)):=by
  intro d
  induction d with
  | zero=>
    intro m hd hm
    exact Tot.step (fun k=>by rw[impl_ascending.l0]) (Tot.neg (by omega) (Tot.ret ⟨fun _ j h1 h2=>by omega,fun _=>rfl⟩))
  | succ d ih=>
    intro m hd hm
    refine Tot.step (fun k=>by rw[impl_ascending.l0]) (Tot.pos (by omega) ?_)
    rw[w_pre m (by omega) (by omega)]
    refine Tot.pos (by omega) (Tot.pos (by omega) (Tot.pos (by omega) ?_))
    rw[rdT_nat,rdT_nat,w_suc m (by omega)]
    refine Tot.bind (tieOrder_tot _ _) (fun r hr=>Tot.ite (fun h=>Tot.ret ?_) (fun h=>?_))
    · exact⟨fun e=>(by cases e),fun e=>absurd (e m (by omega) (by omega)) (hr.mp h)⟩
    · refine(ih (m+1) (by omega) (by omega)).mono (fun b hb=>?_)
      rw[hb]
      refine⟨fun e j h1 h2=>?_,fun e j h1 h2=>e j (by omega) h2⟩
      by_cases hj:j=m
      · rw[hj]
        exact Classical.byContradiction (fun h3=>h (hr.mpr h3))
      · exact e j (by omega) h2
theorem implNet_loop(n:Int)(ts:List S57)(h0:0≤n)(h8:n≤8)(hl:ts.length<1099511627776): ∀d m,ts.length-m=d→m≤ts.length→
    Tot (fun k=>impl_NetOk.l0 k ts (ts.length:Int) (m:Int) n ts) (fun b=>b=true↔(∀j,m≤j→j<ts.length→InN n (ts.getD j z57))∧ ∀j,1≤j→j<ts.length→tlt (ts.getD (j-1) z57) (ts.getD j z57)):=by
  intro d
  induction d with
  | zero=>
    intro m hd hm
    refine Tot.step (fun k=>by rw[impl_NetOk.l0]) (Tot.neg (by omega) ?_)
    refine Tot.bind (Tot.unf (fun k=>by rw[impl_ascending.f];rfl) (ascending_loop ts hl _ 1 rfl (by omega))) (fun b hb=>Tot.ret ?_)
    rw[hb]
    exact⟨fun h=>⟨fun j h1 h2=>by omega,h⟩,fun h=>h.2⟩
  | succ d ih=>
    intro m hd hm
    have hbad: ¬InN n (ts.getD m z57)→(false=true↔(∀j,m≤j→j<ts.length→InN n (ts.getD j z57))∧ ∀j,1≤j→j<ts.length→tlt (ts.getD (j-1) z57) (ts.getD j z57)):=
      fun h=>⟨fun e=>(by cases e),fun e=>absurd (e.1 m (by omega) (by omega)) h⟩
    refine Tot.step (fun k=>by rw[impl_NetOk.l0]) (Tot.pos (by omega) (Tot.pos (by omega) (Tot.pos (by omega) ?_)))
    rw[rdT_nat,w_suc m (by omega)]
    refine Tot.ite (fun h=>Tot.ret (hbad (fun hx=>by unfold InN at hx;omega))) (fun h1=>?_)
    refine Tot.ite (fun h=>Tot.ret (hbad (fun hx=>by unfold InN at hx;omega))) (fun h2=>?_)
    refine Tot.ite (fun h=>Tot.ret (hbad (fun hx=>by unfold InN at hx;omega))) (fun h3=>?_)
    refine(ih (m+1) (by omega) (by omega)).mono (fun b hb=>?_)
    rw[hb]
    refine⟨fun e=>⟨fun j g1 g2=>?_,e.2⟩,fun e=>⟨fun j g1 g2=>e.1 j (by omega) g2,e.2⟩⟩
    by_cases hj:j=m
    · rw[hj]
      unfold InN
      omega
    · exact e.1 j (by omega) g2
theorem implNetOk_tot(n:Int)(ts:List S57)(hl:ts.length<1099511627776):Tot (fun k=>impl_NetOk.f k n ts) (fun b=>b=true↔NetOkP n ts):=by
  have hno: ¬NetOkP n ts→Tot (fun k=>impl_NetOk.j0 k true n ts) (fun b=>b=true↔NetOkP n ts):=fun h=>
    Tot.step (fun k=>by rw[impl_NetOk.j0]) (Tot.pos rfl (Tot.ret ⟨fun e=>(by cases e),fun e=>absurd e h⟩))
  refine Tot.unf (fun k=>by rw[impl_NetOk.f]) (Tot.ite (fun h=>hno (fun hx=>by have:=hx.1;omega)) (fun h=>?_))
  by_cases h8:n>8
  · rw[decide_eq_true h8]
    exact hno (fun hx=>by have:=hx.2.1;omega)
  · rw[decide_eq_false h8]
    refine Tot.step (fun k=>by rw[impl_NetOk.j0]) (Tot.neg (by simp) ?_)
    refine(implNet_loop n ts (by omega) (by omega) hl _ 0 rfl (by omega)).mono (fun b hb=>?_)
    rw[hb]
    exact⟨fun e=>⟨by omega,by omega,fun j hj=>⟨e.1 j (by omega) hj,fun h=>e.2 j h hj⟩⟩,fun e=>⟨fun j _ hj=>(e.2.2 j hj).1,fun j h1 hj=>(e.2.2 j hj).2 h1⟩⟩
theorem tieAt_loop(ts:List S57)(t:S57)(hl:ts.length<1099511627776): ∀d m,ts.length-m=d→m≤ts.length→Tot (fun k=>impl_Tie_106.l0 k ts (ts.length:Int) (m:Int) t.f0 t.f1) (fun r=>r≥0↔t∈ts.drop m):=by
  intro d
  induction d with
  | zero=>
    intro m hd hm
    refine Tot.step (fun k=>by rw[impl_Tie_106.l0]) (Tot.neg (by omega) (Tot.ret ?_))
    rw[List.drop_eq_nil_of_le (by omega)]
    simp
  | succ d ih=>
    intro m hd hm
    refine Tot.step (fun k=>by rw[impl_Tie_106.l0]) (Tot.pos (by omega) (Tot.pos (by omega) (Tot.pos (by omega) ?_)))
    rw[drop_cons z57 ts m (by omega),rdT_nat,w_suc m (by omega)]
    refine Tot.ite (fun h=>Tot.ret ?_) (fun h=>?_)
    · rw[List.mem_cons,←(same_tie _ _).mp h]
      exact⟨fun _=> .inl rfl,fun _=>by omega⟩
    refine(ih (m+1) (by omega) (by omega)).mono (fun r hr=>?_)
    rw[hr,List.mem_cons]
    exact⟨.inr,fun e=>e.resolve_left (fun e=>h ((same_tie _ _).mpr e))⟩
theorem implHas_tot(n:Int)(ts:List S57)(a b:Int)(hl:ts.length<1099511627776):Tot (fun k=>impl_Net_has.f k n ts a b) (fun r=>r=true↔tieP a b∈ts):=by
  refine Tot.unf (fun k=>by rw[impl_Net_has.f]) ?_
  rw[tie_eq]
  refine Tot.some_ (Tot.bind (Q:=fun r=>r=true↔tieP a b∈ts) (Tot.unf (fun k=>by rw[impl_Tie_76.f]) ?_) (fun r hr=>Tot.ret hr))
  refine Tot.bind (Tot.unf (fun k=>by rw[impl_Tie_106.f];rfl) (tieAt_loop ts (tieP a b) hl _ 0 rfl (by omega))) (fun r hr=>Tot.ret ?_)
  rw[decide_eq_true_iff]
  exact hr
theorem implKnot_eq(n:Int)(ts:List S57)(a:Int):impl_Net_knot.f n ts a=some (decide (0≤a∧a<n)):=by
  unfold impl_Net_knot.f
  by_cases h:a≥0
  · rw[if_pos h]
    exact congrArg some (decide_eq_decide.mpr ⟨fun h2=>⟨h,h2⟩,fun h2=>h2.2⟩)
  · rw[if_neg h]
    exact congrArg some (decide_eq_false (fun h2=>h h2.1)).symm
def walkAt(n:Int)(ts:List S57)(e:List Int)(j:Nat):Prop:=(0≤e.getD j 0∧e.getD j 0<n)∧(0<j→tieP (e.getD (j-1) 0) (e.getD j 0)∈ts)
theorem walk_loop(n:Int)(ts:List S57)(e:List Int)(hl:ts.length<1099511627776)(he:e.length<1099511627776): ∀d m,e.length-m=d→m≤e.length→Tot (fun k=>impl_Net_walk.l0 k e e (e.length:Int) (m:Int) n ts) (fun b=>b=true↔ ∀j,m≤j→j<e.length→walkAt n ts e j):=by
  intro d
  induction d with
  | zero=>
    intro m hd hm
    exact Tot.step (fun k=>by rw[impl_Net_walk.l0]) (Tot.neg (by omega) (Tot.ret ⟨fun _ j h1 h2=>by omega,fun _=>rfl⟩))
  | succ d ih=>
    intro m hd hm
    refine Tot.step (fun k=>by rw[impl_Net_walk.l0]) (Tot.pos (by omega) (Tot.pos (by omega) (Tot.pos (by omega) ?_)))
    rw[rd_nat,implKnot_eq,w_suc m (by omega)]
    refine Tot.some_ (Tot.ite (fun h=>?_) (fun h=>Tot.ret ⟨fun e=>(by cases e),fun e=>absurd (decide_eq_true (e m (by omega) (by omega)).1) h⟩))
    have hk:=of_decide_eq_true h
    have hgo:(0<m→tieP (e.getD (m-1) 0) (e.getD m 0)∈ts)→Tot (fun k=>impl_Net_walk.l0 k e e (e.length:Int) ((m+1:Nat):Int) n ts) (fun b=>b=true↔ ∀j,m≤j→j<e.length→walkAt n ts e j):=by
      intro hw
      refine(ih (m+1) (by omega) (by omega)).mono (fun b hb=>?_)
      rw[hb]
      refine⟨fun e j h1 h2=>?_,fun e j h1 h2=>e j (by omega) h2⟩
      by_cases hj:j=m
      · rw[hj]
        exact⟨hk,hw⟩
      · exact e j (by omega) h2
    refine Tot.ite (fun h0=>?_) (fun h0=>hgo (fun h=>by omega))
    rw[w_pre m (by omega) (by omega)]
    refine Tot.pos (by omega) (Tot.pos (by omega) ?_)
    rw[rd_nat]
    refine Tot.bind (implHas_tot n ts _ _ hl) (fun b hb=>Tot.ite (fun h2=>hgo (fun _=>hb.mp h2)) (fun h2=>Tot.ret ⟨fun e=>(by cases e),fun e=>absurd (hb.mpr ((e m (by omega) (by omega)).2 (by omega))) h2⟩))
theorem index_loop(xs:List Int)(v:Int)(hl:xs.length<4611686018427387904): ∀d m,xs.length-m=d→m≤xs.length→Tot (fun k=>slices_Index_int_int.l0 k xs v (xs.length:Int) (m:Int)) (fun r=>r≥0↔v∈xs.drop m):=by
  intro d
  induction d with
  | zero=>
    intro m hd hm
    refine Tot.step (fun k=>by rw[slices_Index_int_int.l0]) (Tot.neg (by omega) (Tot.ret ?_))
    rw[List.drop_eq_nil_of_le (by omega)]
    simp
  | succ d ih=>
    intro m hd hm
    refine Tot.step (fun k=>by rw[slices_Index_int_int.l0]) (Tot.pos (by omega) (Tot.pos (by omega) (Tot.pos (by omega) ?_)))
    rw[drop_cons 0 xs m (by omega),rd_nat,w_suc m (by omega)]
    refine Tot.ite (fun h=>Tot.ret (by rw[List.mem_cons];exact⟨fun _=> .inl h,fun _=>by omega⟩)) (fun h=>?_)
    refine(ih (m+1) (by omega) (by omega)).mono (fun b hb=>?_)
    rw[hb,List.mem_cons]
    exact⟨.inr,fun e=>e.resolve_left h⟩
theorem contains_tot(xs:List Int)(v:Int)(hl:xs.length<4611686018427387904):Tot (fun k=>slices_Contains_int_int.f k xs v) (fun b=>b=true↔v∈xs):=by
  refine Tot.unf (fun k=>by rw[slices_Contains_int_int.f]) ?_
  refine Tot.bind (Tot.unf (fun k=>by rw[slices_Index_int_int.f];rfl) (index_loop xs v hl _ 0 rfl (by omega))) (fun r hr=>Tot.ret ?_)
  rw[decide_eq_true_iff]
  exact hr
theorem different_loop(xs:List Int)(hl:xs.length<4611686018427387904): ∀d m,xs.length-m=d→m≤xs.length→Tot (fun k=>impl_different.l0 k xs xs (xs.length:Int) (m:Int)) (fun b=>b=true↔ ∀j,m≤j→j<xs.length→xs.getD j 0∉xs.take j):=by
  intro d
  induction d with
  | zero=>
    intro m hd hm
    exact Tot.step (fun k=>by rw[impl_different.l0]) (Tot.neg (by omega) (Tot.ret ⟨fun _ j h1 h2=>by omega,fun _=>rfl⟩))
  | succ d ih=>
    intro m hd hm
    refine Tot.step (fun k=>by rw[impl_different.l0]) (Tot.pos (by omega) (Tot.pos (by omega) (Tot.pos (by omega) (Tot.pos (by omega) ?_))))
    rw[rd_nat,w_suc m (by omega),show((m:Int)).toNat=m by omega]
    refine Tot.bind (contains_tot _ _ (by rw[List.length_take];omega)) (fun b hb=>Tot.ite (fun h=>Tot.ret ⟨fun e=>(by cases e),fun e=>absurd (hb.mp h) (e m (by omega) (by omega))⟩) (fun h=>?_))
    refine(ih (m+1) (by omega) (by omega)).mono (fun r hr=>?_)
    rw[hr]
    refine⟨fun e j h1 h2=>?_,fun e j h1 h2=>e j (by omega) h2⟩
    by_cases hj:j=m
    · rw[hj]
      exact fun h3=>h (hb.mpr h3)
    · exact e j (by omega) h2
theorem different_tot(xs:List Int)(hl:xs.length<4611686018427387904):Tot (fun k=>impl_different.f k xs) (fun b=>b=true↔ ∀j,j<xs.length→xs.getD j 0∉xs.take j):=
  (Tot.unf (fun k=>by rw[impl_different.f];rfl) (different_loop xs hl _ 0 rfl (by omega))).mono (fun b hb=>by rw[hb];exact⟨fun e j h=>e j (by omega) h,fun e j _ h=>e j h⟩)
theorem indexB_loop(xs:List Bool)(v:Bool)(hl:xs.length<4611686018427387904): ∀d m,xs.length-m=d→m≤xs.length→Tot (fun k=>slices_Index_bool_bool.l0 k xs v (xs.length:Int) (m:Int)) (fun r=>r≥0↔v∈xs.drop m):=by
  intro d
  induction d with
  | zero=>
    intro m hd hm
    refine Tot.step (fun k=>by rw[slices_Index_bool_bool.l0]) (Tot.neg (by omega) (Tot.ret ?_))
    rw[List.drop_eq_nil_of_le (by omega)]
    simp
  | succ d ih=>
    intro m hd hm
    refine Tot.step (fun k=>by rw[slices_Index_bool_bool.l0]) (Tot.pos (by omega) (Tot.pos (by omega) (Tot.pos (by omega) ?_)))
    rw[drop_cons false xs m (by omega),rdB_nat,w_suc m (by omega)]
    refine Tot.ite (fun h=>Tot.ret (by rw[List.mem_cons];exact⟨fun _=> .inl (beq_iff_eq.mp h),fun _=>by omega⟩)) (fun h=>?_)
    refine(ih (m+1) (by omega) (by omega)).mono (fun b hb=>?_)
    rw[hb,List.mem_cons]
    exact⟨.inr,fun e=>e.resolve_left (fun e=>h (beq_iff_eq.mpr e))⟩
theorem containsB_tot(xs:List Bool)(v:Bool)(hl:xs.length<4611686018427387904):Tot (fun k=>slices_Contains_bool_bool.f k xs v) (fun b=>b=true↔v∈xs):=by
  refine Tot.unf (fun k=>by rw[slices_Contains_bool_bool.f]) ?_
  refine Tot.bind (Tot.unf (fun k=>by rw[slices_Index_bool_bool.f];rfl) (indexB_loop xs v hl _ 0 rfl (by omega))) (fun r hr=>Tot.ret ?_)
  rw[decide_eq_true_iff]
  exact hr
theorem mem_take{α:Type}(d:α)(e:List α)(j:Nat)(v:α):v∈e.take j↔ ∃a,a<j∧a<e.length∧e.getD a d=v:=by
  constructor
  · intro h
    obtain⟨a,ha,hx⟩:=List.getElem_of_mem h
    rw[List.length_take]at ha
    refine⟨a,by omega,by omega,?_⟩
    rw[getD_get _ _ _ (by omega),←hx,List.getElem_take]
  · rintro⟨a,h1,h2,rfl⟩
    rw[getD_get _ _ _ h2,show e[a]=(e.take j)[a]'(by rw[List.length_take];omega)by rw[List.getElem_take]]
    exact List.getElem_mem _
theorem mem_get{α:Type}(d:α)(e:List α)(v:α):v∈e↔ ∃a,a<e.length∧e.getD a d=v:=by
  have h:=mem_take d e e.length v
  rw[List.take_length]at h
  rw[h]
  exact⟨fun⟨a,_,h2,h3⟩=>⟨a,h2,h3⟩,fun⟨a,h2,h3⟩=>⟨a,h2,h2,h3⟩⟩
theorem tiesOf_take: ∀(e:List Int) (j:Nat),0<j→j<e.length→tiesOf (e.take (j+1))=tiesOf (e.take j)++[tieP (e.getD (j-1) 0) (e.getD j 0)]
  |[],j,_,h=>absurd h (by simp)
  |[_],j,h0,h=>absurd h (by simp;omega)
  |a::b::r,1,_,_=>rfl
  | a::b::r,j+2,_,h=>by
    have ih:=tiesOf_take (b::r) (j+1) (by omega) (by simpa using h)
    rw[List.take_succ_cons,List.take_succ_cons]at ih
    rw[List.take_succ_cons,List.take_succ_cons,List.take_succ_cons,tiesOf,ih]
    rfl
theorem mem_ties(e:List Int)(t:S57): ∀j,j≤e.length→(t∈tiesOf (e.take j)↔ ∃i,0<i∧i<j∧tieP (e.getD (i-1) 0) (e.getD i 0)=t):=by
  intro j
  induction j with
  | zero=>
    intro _
    simp only[List.take_zero,tiesOf,List.not_mem_nil,false_iff]
    rintro⟨i,_,h,_⟩
    omega
  | succ j ih=>
    intro hj
    by_cases h0:j=0
    · subst h0
      have:tiesOf (e.take 1)=[]:=by cases e<;>rfl
      rw[show 0+1=1 from rfl,this]
      simp only[List.not_mem_nil,false_iff]
      rintro⟨i,_,h,_⟩
      omega
    · rw[tiesOf_take e j (by omega) (by omega),List.mem_append,ih (by omega),List.mem_singleton]
      constructor
      · rintro(⟨i,h1,h2,h3⟩|h)
        · exact⟨i,h1,by omega,h3⟩
        · exact⟨j,by omega,by omega,h.symm⟩
      · rintro⟨i,h1,h2,h3⟩
        by_cases hi:i=j
        · subst hi
          exact .inr h3.symm
        · exact .inl ⟨i,h1,by omega,h3⟩
theorem tieP_inj{a b c d:Int}(h:tieP a b=tieP c d):(a=c∧b=d)∨(a=d∧b=c):=by
  unfold tieP at h
  split at h<;>split at h<;>simp only[S57.mk.injEq]at h<;>omega
theorem fresh_ties{n:Int}{ts taken:List S57}{knots e:List Int}{first:Bool}(h:Fresh n ts taken knots e first)(i j:Nat)(h0:0<i)(hij:i<j)(hj:j<e.length):
    tieP (e.getD (i-1) 0) (e.getD i 0)≠tieP (e.getD (j-1) 0) (e.getD j 0):=by
  obtain⟨h2,hf,hnf,hat⟩:=h
  have hin: ∀a b,b<a→a+1<e.length→e.getD b 0≠e.getD a 0:=fun a b hb ha hx=>
    ((hat a (by omega)).2.2.1 (by omega) ha).2 ((mem_take 0 e a _).mpr ⟨b,hb,by omega,hx⟩)
  have hlast: ∀a,0<a→a+1<e.length→e.getD a 0≠e.getD (e.length-1) 0:=by
    intro a h1 h3 hx
    cases first with
    | true=>
      have hc:=(hf rfl).1
      unfold openE at hc
      exact hin a 0 h1 h3 (by have:e.getD 0 0=e.getD (e.length-1) 0:=Classical.byContradiction (fun h=>hc ⟨by omega,h⟩);rw[this,hx])
    |false=>exact((hat a (by omega)).2.2.1 h1 h3).1 (by rw[hx];exact(hnf rfl).2.1)
  intro he
  rcases tieP_inj he with⟨e1,e2⟩|⟨e1,e2⟩
  · exact hin (j-1) (i-1) (by omega) (by omega) e1
  · by_cases h3:i<j-1
    · exact hin (j-1) i h3 (by omega) e2
    · obtain rfl:i=j-1:=by omega
      by_cases h4:j+1<e.length
      · exact hin j (j-1-1) (by omega) h4 e1
      · obtain rfl:j=e.length-1:=by omega
        by_cases h5:0<e.length-1-1-1
        · exact hlast (e.length-1-1-1) h5 (by omega) e1
        · have h6:e.length=3:=by omega
          rw[h6]at e1
          have h7: ¬openE e:=by
            unfold openE
            rw[h6]
            exact fun h=>h.2 e1
          cases first with
          |true=>have:=(hf rfl).2;omega
          | false=>
            rcases(hnf rfl).2.2 with h8|h8
            · exact h7 h8
            · omega
def markK(ks:List Bool):List Int→List Bool
  |[]=>ks
  |v::r=>markK (ks.set v.toNat true) r
def St(n:Int)(known:List Bool)(knots:List Int):Prop:=
  known.length=n.toNat∧(∀v:Int,0≤v→v<n→(known.getD v.toNat false=true↔v∈knots))∧(∀v∈knots,0≤v∧v<n)∧knots.Nodup
theorem St_add{n:Int}: ∀(e:List Int) (known:List Bool) (knots:List Int),St n known knots→(∀v∈e,0≤v∧v<n)→St n (markK known e) (addK knots e)
  |[],_,_,h,_=>h
  | x ::r,known,knots,h,he=>by
    rw[markK,addK]
    have hx:=he x List.mem_cons_self
    refine St_add r _ _ ?_ (fun v hv=>he v (List.mem_cons_of_mem _ hv))
    obtain⟨h1,h2,h3,h4⟩:=h
    have hset: ∀v:Int,0≤v→v<n→((known.set x.toNat true).getD v.toNat false=true↔v=x∨v∈knots):=by
      intro v hv0 hv1
      by_cases hvx:v=x
      · subst hvx
        rw[getD_get _ _ _ (by rw[List.length_set];omega),List.getElem_set_self]
        exact⟨fun _=> .inl rfl,fun _=>rfl⟩
      · rw[getD_get _ _ _ (by rw[List.length_set];omega),List.getElem_set_ne (by omega),←h2 v hv0 hv1,getD_get _ _ _ (by omega)]
        exact⟨.inr,fun h=>h.resolve_left hvx⟩
    by_cases hm:x∈knots
    · rw[if_pos hm]
      refine⟨by rw[List.length_set];exact h1,fun v hv0 hv1=>?_,h3,h4⟩
      rw[hset v hv0 hv1]
      exact⟨fun h=>h.elim (fun e=>e▸hm) id,.inr⟩
    · rw[if_neg hm]
      refine⟨by rw[List.length_set];exact h1,fun v hv0 hv1=>?_,fun v hv=>?_,?_⟩
      · rw[hset v hv0 hv1,List.mem_append,List.mem_singleton]
        exact⟨fun h=>h.symm,fun h=>h.symm⟩
      · rw[List.mem_append,List.mem_singleton]at hv
        rcases hv with hv|rfl
        · exact h3 v hv
        · exact hx
      · rw[List.nodup_append]
        refine⟨h4,by simp,fun a ha b hb=>?_⟩
        rw[List.mem_singleton]at hb
        subst hb
        exact fun e=>hm (e▸ha)
theorem sub_len{α:Type}[DecidableEq α]: ∀(xs ys:List α),xs.Nodup→(∀v∈xs,v∈ys)→xs.length≤ys.length
  |[],_,_,_=>Nat.zero_le _
  | x::r,ys,hn,h=>by
    rw[List.nodup_cons]at hn
    have h1:=sub_len r (ys.erase x) hn.2 (fun v hv=>(List.mem_erase_of_ne (fun e=>hn.1 (by rw[←e];exact hv))).mpr (h v (List.mem_cons_of_mem _ hv)))
    have h2:=List.length_erase_of_mem (h x List.mem_cons_self)
    have h3:=List.length_pos_of_mem (h x List.mem_cons_self)
    rw[List.length_cons]
    omega
def upTo(n:Nat):List Int:=(List.range n).map (fun x:Nat=>(x:Int))
theorem mem_upTo(n:Nat)(v:Int):v∈upTo n↔0≤v∧v<n:=by
  unfold upTo
  rw[List.mem_map]
  constructor
  · rintro⟨x,hx,rfl⟩
    rw[List.mem_range]at hx
    omega
  · intro h
    exact⟨v.toNat,by rw[List.mem_range];omega,by omega⟩
theorem upTo_nodup: ∀n:Nat,(upTo n).Nodup:=by
  intro n
  unfold upTo
  exact List.Pairwise.map _ (fun a b h e=>h (by omega)) List.nodup_range
theorem St_full{n:Int}{known:List Bool}{knots:List Int}(h0:0≤n)(h:St n known knots):(knots.length:Int)=n↔false∉known:=by
  obtain⟨h1,h2,h3,h4⟩:=h
  have hle:=sub_len knots (upTo n.toNat) h4 (fun v hv=>(mem_upTo _ _).mpr (by have:=h3 v hv;omega))
  rw[show(upTo n.toNat).length=n.toNat by simp[upTo]]at hle
  constructor
  · intro hl hm
    obtain⟨a,ha,hx⟩:=(mem_get false known false).mp hm
    have h5:(a:Int)∉knots:=fun hk=>by
      have:=(h2 a (by omega) (by omega)).mpr hk
      rw[show((a:Int)).toNat=a by omega,hx]at this
      cases this
    have:=sub_len ((a:Int)::knots) (upTo n.toNat) (List.nodup_cons.mpr ⟨h5,h4⟩) (fun v hv=>by
      rw[List.mem_cons]at hv
      rcases hv with rfl|hv
      · exact(mem_upTo _ _).mpr (by omega)
      · exact(mem_upTo _ _).mpr (by have:=h3 v hv;omega))
    rw[show(upTo n.toNat).length=n.toNat by simp[upTo],List.length_cons]at this
    omega
  · intro hm
    have:=sub_len (upTo n.toNat) knots (upTo_nodup _) (fun v hv=>by
      have hv:=(mem_upTo _ _).mp hv
      refine(h2 v hv.1 (by omega)).mp (Classical.byContradiction (fun h=>hm ((mem_get false known false).mpr ⟨v.toNat,by omega,by simpa using h⟩))))
    rw[show(upTo n.toNat).length=n.toNat by simp[upTo]]at this
    omega
theorem l3_same: ∀k,(fun a b c d e f g h i j=>impl_EarOk.l1003 k a b c d e f g h i j)=(fun a b c d e f g h i j=>impl_EarOk.l3 k a b c d e f g h i j)
  | 0=>by
    funext a b c d e f g h i j
    simp only[impl_EarOk.l1003,impl_EarOk.l3]
  | k +1=>by
    funext a b c d e f g h i j
    have ih:=l3_same k
    have ih2: ∀a b c d e f g h i j,impl_EarOk.l1003 k a b c d e f g h i j=impl_EarOk.l3 k a b c d e f g h i j:=fun a b c d e f g h i j=>
      congrFun (congrFun (congrFun (congrFun (congrFun (congrFun (congrFun (congrFun (congrFun (congrFun ih a) b) c) d) e) f) g) h) i) j
    simp only[impl_EarOk.l1003,impl_EarOk.l3,ih2]
theorem l3_eq(k:Nat)(a b c d e f g h i j):impl_EarOk.l1003 k a b c d e f g h i j=impl_EarOk.l3 k a b c d e f g h i j:=
  congrFun (congrFun (congrFun (congrFun (congrFun (congrFun (congrFun (congrFun (congrFun (congrFun (l3_same k) a) b) c) d) e) f) g) h) i) j
theorem l2_eq: ∀(k:Nat) (a b c d e f g h i),impl_EarOk.l1002 k a b c d e f g h i=impl_EarOk.l2 k a b c d e f g h i
  |0,a,b,c,d,e,f,g,h,i=>by simp only[impl_EarOk.l1002,impl_EarOk.l2]
  |k+1,a,b,c,d,e,f,g,h,i=>by simp only[impl_EarOk.l1002,impl_EarOk.l2,l2_eq k,l3_eq]
theorem l1_eq: ∀(k:Nat) (a b c d e f g h i j l),impl_EarOk.l1001 k a b c d e f g h i j l=impl_EarOk.l1 k a b c d e f g h i j l
  |0,a,b,c,d,e,f,g,h,i,j,l=>by simp only[impl_EarOk.l1001,impl_EarOk.l1]
  |k+1,a,b,c,d,e,f,g,h,i,j,l=>by simp only[impl_EarOk.l1001,impl_EarOk.l1,l1_eq k,l2_eq]
theorem mark_loop(n:Int)(ts used:List S57)(ears:List (List Int))(i:Nat)(e:List Int)(he:e.length<1099511627776)(hE:ears.length<1099511627776)(hi:i<ears.length){P:Bool→Prop}:
    ∀d m (known:List Bool),e.length-m=d→m≤e.length→(∀v∈e,0≤v∧v<known.length)→
    Tot (fun k=>impl_EarOk.l0 k (markK known (e.drop m)) ears (ears.length:Int) ((i+1:Nat):Int) n ts used) P→Tot (fun k=>impl_EarOk.l3 k known ears (ears.length:Int) (i:Int) e (e.length:Int) (m:Int) n ts used) P:=by
  intro d
  induction d with
  | zero=>
    intro m known hd hm hv h
    refine Tot.step (fun k=>by rw[impl_EarOk.l3]) (Tot.neg (by omega) ?_)
    rw[w_suc i (by omega)]
    rw[List.drop_eq_nil_of_le (by omega)]at h
    exact h
  | succ d ih=>
    intro m known hd hm hv h
    have hx:=hv (e.getD m 0) ((mem_get 0 e _).mpr ⟨m,by omega,rfl⟩)
    refine Tot.step (fun k=>by rw[impl_EarOk.l3]) (Tot.pos (by omega) (Tot.pos (by omega) (Tot.pos (by omega) ?_)))
    rw[rd_nat,w_suc m (by omega)]
    refine Tot.pos hx.1 (Tot.pos hx.2 (ih (m+1) _ (by omega) (by omega) (fun v h2=>by rw[List.length_set];exact hv v h2) ?_))
    rw[drop_cons 0 e m (by omega)]at h
    exact h
def tieAt(e:List Int)(j:Nat):S57:=tieP (e.getD (j-1) 0) (e.getD j 0)
theorem hasT_iff(M:List S57)(t:S57):hasT M t.f0 t.f1=true↔t∈M:=by
  unfold hasT
  rw[List.any_eq_true]
  constructor
  · rintro⟨x,hx,h⟩
    have:x=t:=by
      cases x
      cases t
      simp_all
    exact this▸hx
  · intro h
    exact⟨t,h,by simp⟩
theorem used_loop(n:Int)(ts used:List S57)(known:List Bool)(ears:List (List Int))(i:Nat)(e:List Int)(he:e.length<1099511627776){P:Bool→Prop}
    (hno:(∃j,0<j∧j<e.length∧tieAt e j∈used++tiesOf (e.take j))→P false)
    (hyes:(∀j,0<j→j<e.length→tieAt e j∉used++tiesOf (e.take j))→Tot (fun k=>impl_EarOk.l3 k known ears (ears.length:Int) (i:Int) e (e.length:Int) 0 n ts (used++tiesOf e)) P):
    ∀d m,e.length-m=d→0<m→m≤e.length→(∀j,0<j→j<m→tieAt e j∉used++tiesOf (e.take j))→
    Tot (fun k=>impl_EarOk.l2 k known e (m:Int) ears (ears.length:Int) (i:Int) n ts (used++tiesOf (e.take m))) P:=by
  intro d
  induction d with
  | zero=>
    intro m hd h0 hm hg
    refine Tot.step (fun k=>by rw[impl_EarOk.l2]) (Tot.neg (by omega) ?_)
    rw[show m=e.length by omega,List.take_length]
    exact hyes (fun j h1 h2=>hg j h1 (by omega))
  | succ d ih=>
    intro m hd h0 hm hg
    refine Tot.step (fun k=>by rw[impl_EarOk.l2]) (Tot.pos (by omega) ?_)
    rw[w_pre m h0 (by omega)]
    refine Tot.pos (by omega) (Tot.pos (by omega) (Tot.pos (by omega) ?_))
    rw[rd_nat,rd_nat,tie_eq,w_suc m (by omega)]
    refine Tot.some_ ?_
    unfold mapHas.f mapPut.f
    refine Tot.some_ (Tot.ite (fun h=>Tot.ret (hno ⟨m,h0,by omega,(hasT_iff _ _).mp h⟩)) (fun h=>Tot.some_ ?_))
    have hnm:tieAt e m∉used++tiesOf (e.take m):=fun h2=>h ((hasT_iff _ _).mpr h2)
    have:=ih (m+1) (by omega) (by omega) (by omega) (fun j h1 h2=>by
      by_cases hj:j=m
      · rw[hj]
        exact hnm
      · exact hg j h1 (by omega))
    rw[tiesOf_take e m h0 (by omega),←List.append_assoc]at this
    rw[if_neg h]
    exact this
theorem inner_loop(n:Int)(ts used:List S57)(known:List Bool)(ears:List (List Int))(i:Nat)(e xs:List Int)(he:xs.length<1099511627776){P:Bool→Prop}(hv: ∀v∈xs,0≤v∧v<known.length)
    (hno:(∃v∈xs,known.getD v.toNat false=true)→P false)
    (hyes:(∀v∈xs,known.getD v.toNat false≠true)→Tot (fun k=>impl_EarOk.l2 k known e 1 ears (ears.length:Int) (i:Int) n ts used) P):
    ∀d m,xs.length-m=d→m≤xs.length→(∀j,j<m→known.getD (xs.getD j 0).toNat false≠true)→
    Tot (fun k=>impl_EarOk.l1 k known e ears (ears.length:Int) (i:Int) xs (xs.length:Int) (m:Int) n ts used) P:=by
  intro d
  induction d with
  | zero=>
    intro m hd hm hg
    refine Tot.step (fun k=>by rw[impl_EarOk.l1]) (Tot.neg (by omega) (hyes (fun v hv=>?_)))
    obtain⟨a,ha,rfl⟩:=(mem_get 0 xs v).mp hv
    exact hg a (by omega)
  | succ d ih=>
    intro m hd hm hg
    have hm2:=(mem_get 0 xs _).mpr ⟨m,by omega,rfl⟩
    have hx:=hv (xs.getD m 0) hm2
    refine Tot.step (fun k=>by rw[impl_EarOk.l1]) (Tot.pos (by omega) (Tot.pos (by omega) (Tot.pos (by omega) ?_)))
    rw[rd_nat,w_suc m (by omega)]
    refine Tot.pos hx.1 (Tot.pos hx.2 (Tot.ite (fun h=>Tot.ret (hno ⟨_,hm2,h⟩)) (fun h=>ih (m+1) (by omega) (by omega) (fun j h2=>?_))))
    by_cases hj:j=m
    · rw[hj]
      exact h
    · exact hg j (by omega)
theorem fresh_of{n:Int}{ts taken:List S57}{knots e:List Int}{first:Bool}(h2:2≤e.length)(hf:first=true→ ¬openE e∧4≤e.length∧knots=[])
    (hnf:first=false→e.getD 0 0∈knots∧e.getD (e.length-1) 0∈knots∧(openE e∨4≤e.length))
    (hw: ∀j,j<e.length→walkAt n ts e j) (hk:first=false→ ∀j,0<j→j+1<e.length→e.getD j 0∉knots)
    (hd: ∀a b,0<a→a<b→b<e.length→(first=false→b+1<e.length)→e.getD a 0≠e.getD b 0)
    (ht: ∀j,0<j→j<e.length→tieAt e j∉taken):Fresh n ts taken knots e first:=by
  refine⟨h2,fun h=>⟨(hf h).1,(hf h).2.1⟩,hnf,fun j hj=>⟨(hw j hj).1.1,(hw j hj).1.2,fun h0 h1=>?_,fun h0=>⟨(hw j hj).2 h0,ht j h0 hj⟩⟩⟩
  have hkn:e.getD j 0∉knots:=by
    cases first with
    | true=>
      rw[(hf rfl).2.2]
      simp
    |false=>exact hk rfl j h0 h1
  refine⟨hkn,fun hm=>?_⟩
  obtain⟨a,ha,ha2,hx⟩:=(mem_take 0 e j _).mp hm
  by_cases ha0:a=0
  · subst ha0
    cases first with
    | true=>
      have hc:=(hf rfl).1
      unfold openE at hc
      have hc2:e.getD 0 0=e.getD (e.length-1) 0:=Classical.byContradiction (fun h=>hc ⟨by omega,h⟩)
      exact hd j (e.length-1) h0 (by omega) (by omega) (fun h=>by cases h) (by rw[←hx,hc2])
    |false=>exact hkn (hx▸(hnf rfl).1)
  · exact hd a j (by omega) ha hj (fun _=>h1) hx
theorem diff_iff(xs:List Int):(∀j,j<xs.length→xs.getD j 0∉xs.take j)↔ ∀a b,a<b→b<xs.length→xs.getD a 0≠xs.getD b 0:=
  ⟨fun h a b h1 h2 e=>h b h2 ((mem_take 0 xs b _).mpr ⟨a,h1,by omega,e⟩),fun h j hj hm=>by
    obtain⟨a,h1,_,h3⟩:=(mem_take 0 xs j _).mp hm
    exact h a j h1 hj h3⟩
theorem getD_drop1(e:List Int)(a:Nat):(e.drop 1).getD a 0=e.getD (a+1) 0:=by
  simp[List.getD_eq_getElem?_getD,List.getElem?_drop,Nat.add_comm]
theorem getD_inner(e:List Int)(a:Nat)(h:a+1<e.length-1):((e.take (e.length-1)).drop 1).getD a 0=e.getD (a+1) 0:=by
  rw[getD_drop1,getD_get _ _ _ (by rw[List.length_take];omega),List.getElem_take,getD_get _ _ _ (by omega)]
theorem implEar_loop(n:Int)(ts:List S57)(ears:List (List Int))(hn:NetOkP n ts)(hE:ears.length<1099511627776)(hS:sumLen ears<1099511627776)(hL: ∀e∈ears,e.length<1099511627776):
    ∀d i (used:List S57) (known:List Bool) (knots:List Int),ears.length-i=d→i≤ears.length→St n known knots→(i=0→knots=[]∧used=[])→
    Tot (fun k=>impl_EarOk.l0 k known ears (ears.length:Int) (i:Int) n ts used) (fun b=>b=true↔EarsFrom n ts used knots (decide (i=0)) (ears.drop i)):=by
  have htl:=netOk_len hn
  have hn0:=hn.1
  have hn8:=hn.2.1
  intro d
  induction d with
  | zero=>
    intro i used known knots hd hi hst h00
    refine Tot.step (fun k=>by rw[impl_EarOk.l0]) (Tot.neg (by omega) ?_)
    rw[List.drop_eq_nil_of_le (by omega)]
    unfold EarsFrom mapLen.f
    refine Tot.some_ (Tot.ite (fun h=>?_) (fun h=>Tot.ret ?_))
    · refine Tot.bind (containsB_tot known false (by rw[hst.1];omega)) (fun b hb=>Tot.ret ?_)
      have:=St_full hn.1 hst
      cases b with
      | true=>
        have hm:=hb.mp rfl
        exact⟨fun e=>(by cases e),fun e=>absurd hm (this.mp e.2)⟩
      | false=>
        have hm:false∉known:=fun h=>(by have:=hb.mpr h;cases this)
        exact⟨fun _=>⟨by omega,this.mpr hm⟩,fun _=>rfl⟩
    · exact⟨fun e=>(by cases e),fun e=>absurd (by have:=e.1;omega) h⟩
  | succ d ih =>
    intro i used known knots hd hi hst h00
    have hcons:=drop_cons [] ears i (by omega)
    have hmem:=(mem_get [] ears (ears.getD i [])).mpr ⟨i,by omega,rfl⟩
    have hl:=hL _ hmem
    generalize hee:ears.getD i []=e at*
    rw[hcons,EarsFrom]
    have hbad: ¬Fresh n ts used knots e (decide (i=0))→(false=true↔Fresh n ts used knots e (decide (i=0))∧EarsFrom n ts (used++tiesOf e) (addK knots e) false (ears.drop (i+1))):=
      fun h=>⟨fun e=>(by cases e),fun e=>absurd e.1 h⟩
    have j2no: ∀x,¬Fresh n ts used knots e (decide (i=0))→Tot (fun k=>impl_EarOk.j2 k known x e ears (ears.length:Int) (i:Int) true n ts used) (fun b=>b=true↔Fresh n ts used knots e (decide (i=0))∧EarsFrom n ts (used++tiesOf e) (addK knots e) false (ears.drop (i+1))):=
      fun x h=>Tot.step (fun k=>by rw[impl_EarOk.j2]) (Tot.pos rfl (Tot.ret (hbad h)))
    refine Tot.step (fun k=>by rw[impl_EarOk.l0]) (Tot.pos (by omega) (Tot.pos (by omega) (Tot.pos (by omega) ?_)))
    rw[rdL_nat,hee]
    refine Tot.ite (fun h2=>j2no _ (fun hf=>by have:=hf.1;omega)) (fun h2=>?_)
    have h2:2≤e.length:=by omega
    refine Tot.bind (Tot.unf (fun k=>by rw[impl_Net_walk.f];rfl) (walk_loop n ts e (by omega) hl _ 0 rfl (by omega))) (fun bw hbw=>?_)
    cases bw with
    |false=>exact j2no _ (fun hf=>by have:=hbw.mpr (fun j _ hj=>⟨⟨(hf.2.2.2 j hj).1,(hf.2.2.2 j hj).2.1⟩,fun h0=>((hf.2.2.2 j hj).2.2.2 h0).1⟩);cases this)
    | true=>
      have hw: ∀j,j<e.length→walkAt n ts e j:=fun j hj=>hbw.mp rfl j (by omega) hj
      have hrange: ∀v∈e,0≤v∧v<(known.length:Int):=by
        intro v hv
        obtain⟨a,ha,rfl⟩:=(mem_get 0 e v).mp hv
        have:=(hw a ha).1
        rw[hst.1]
        omega
      have hrange2: ∀v∈e,0≤v∧v<n:=by
        intro v hv
        have:=hrange v hv
        rw[hst.1]at this
        omega
      have hkn: ∀v∈e,(known.getD v.toNat false=true↔v∈knots):=fun v hv=>hst.2.1 v (hrange2 v hv).1 (hrange2 v hv).2
      have hat: ∀j,j<e.length→e.getD j 0∈e:=fun j hj=>(mem_get 0 e _).mpr ⟨j,hj,rfl⟩
      have hend:(∀a b,0<a→a<b→b<e.length→(decide (i=0)=false→b+1<e.length)→e.getD a 0≠e.getD b 0)→
          (decide (i=0)=true→ ¬openE e∧4≤e.length∧knots=[])→(decide (i=0)=false→e.getD 0 0∈knots∧e.getD (e.length-1) 0∈knots∧(openE e∨4≤e.length))→
          (decide (i=0)=false→ ∀j,0<j→j+1<e.length→e.getD j 0∉knots)→
          Tot (fun k=>impl_EarOk.l2 k known e 1 ears (ears.length:Int) (i:Int) n ts used) (fun b=>b=true↔Fresh n ts used knots e (decide (i=0))∧EarsFrom n ts (used++tiesOf e) (addK knots e) false (ears.drop (i+1))):=by
        intro hd1 hf hnf hk
        have h1:tiesOf (e.take 1)=[]:=by cases e<;>rfl
        have hgo:=used_loop n ts used known ears i e hl (P:=fun b=>b=true↔Fresh n ts used knots e (decide (i=0))∧EarsFrom n ts (used++tiesOf e) (addK knots e) false (ears.drop (i+1)))
          (fun⟨j,hj0,hj1,hj2⟩=>hbad (fun hfr=>by
            rw[List.mem_append]at hj2
            rcases hj2 with hj2|hj2
            · exact((hfr.2.2.2 j hj1).2.2.2 hj0).2 hj2
            · obtain⟨q,hq0,hq1,hq2⟩:=(mem_ties e _ j (by omega)).mp hj2
              exact fresh_ties hfr q j hq0 hq1 hj1 hq2))
          (fun hg=>by
            have hfr:Fresh n ts used knots e (decide (i=0)):=fresh_of h2 hf hnf hw hk hd1 (fun j hj0 hj1 hm=>hg j hj0 hj1 (List.mem_append.mpr (.inl hm)))
            refine mark_loop n ts _ ears i e hl hE (by omega) _ 0 known rfl (by omega) hrange ?_
            refine(ih (i+1) _ _ _ (by omega) (by omega) (St_add e known knots hst hrange2) (fun h=>by omega)).mono (fun b hb=>?_)
            rw[hb,decide_eq_false (by omega)]
            exact⟨fun h=>⟨hfr,h⟩,fun h=>h.2⟩) _ 1 rfl (by omega) (by omega) (fun j h0 h1=>by omega)
        rw[h1,List.append_nil]at hgo
        exact hgo
      have j3no: ∀x y z,¬Fresh n ts used knots e (decide (i=0))→Tot (fun k=>impl_EarOk.j3 k known x e y z ears (ears.length:Int) (i:Int) true n ts used) (fun b=>b=true↔Fresh n ts used knots e (decide (i=0))∧EarsFrom n ts (used++tiesOf e) (addK knots e) false (ears.drop (i+1))):=
        fun x y z h=>Tot.step (fun k=>by rw[impl_EarOk.j3]) (Tot.pos rfl (Tot.ret (hbad h)))
      have j3yes:(openE e∨4≤e.length)→(i=0→ ¬openE e)→Tot (fun k=>impl_EarOk.j3 k known (i:Int) e (e.getD 0 0) (e.getD (e.length-1) 0) ears (ears.length:Int) (i:Int) false n ts used) (fun b=>b=true↔Fresh n ts used knots e (decide (i=0))∧EarsFrom n ts (used++tiesOf e) (addK knots e) false (ears.drop (i+1))):=by
        intro hc1 hc2
        refine Tot.step (fun k=>by rw[impl_EarOk.j3]) (Tot.neg (by simp) ?_)
        rw[w_pre _ (by omega) (by omega)]
        refine Tot.pos (by omega) (Tot.pos (by omega) (Tot.ite (fun hi0=>?_) (fun hi0=>?_)))
        ·
          have hi0:i=0:=by omega
          refine Tot.pos (by omega) (Tot.bind (different_tot (e.drop 1) (by rw[List.length_drop];omega)) (fun b hb=>Tot.ite (fun hbt=>?_) (fun hbf=>Tot.ret (hbad (fun hfr=>hbf (hb.mpr ?_))))))
          · have hdif:=(diff_iff _).mp (hb.mp hbt)
            refine inner_loop n ts used known ears i e (e.drop 1) (by rw[List.length_drop];omega) (fun v hv=>hrange v (List.mem_of_mem_drop hv)) (fun hx=>?_) (fun hv=>?_) _ 0 rfl (by omega) (fun j hj=>by omega)
            · obtain⟨v,hv,hvk⟩:=hx
              have:=(hkn v (List.mem_of_mem_drop hv)).mp hvk
              rw[(h00 hi0).1]at this
              cases this
            · refine hend (fun a b ha hab hb2 _ hx=>?_) (fun _=>⟨hc2 hi0,hc1.resolve_left (hc2 hi0),(h00 hi0).1⟩) (fun h=>by rw[decide_eq_true hi0]at h;cases h) (fun h=>by rw[decide_eq_true hi0]at h;cases h)
              refine hdif (a-1) (b-1) (by omega) (by rw[List.length_drop];omega) ?_
              rw[getD_drop1,getD_drop1,show a-1+1=a by omega,show b-1+1=b by omega]
              exact hx
          · refine(diff_iff _).mpr (fun a b hab hb2 hx=>?_)
            rw[List.length_drop]at hb2
            rw[getD_drop1,getD_drop1]at hx
            have hc:=(hfr.2.1 (decide_eq_true hi0)).1
            unfold openE at hc
            have hc3:e.getD 0 0=e.getD (e.length-1) 0:=Classical.byContradiction (fun h=>hc ⟨by omega,h⟩)
            by_cases hlast:b+1+1<e.length
            · exact((hfr.2.2.2 (b+1) (by omega)).2.2.1 (by omega) hlast).2 ((mem_take 0 e _ _).mpr ⟨a+1,by omega,by omega,hx⟩)
            · rw[show b+1=e.length-1 by omega,←hc3]at hx
              exact((hfr.2.2.2 (a+1) (by omega)).2.2.1 (by omega) (by omega)).2 ((mem_take 0 e _ _).mpr ⟨0,by omega,by omega,hx.symm⟩)
        ·
          have hi0: ¬i=0:=by omega
          have hdf:decide (i=0)=false:=decide_eq_false hi0
          have hr0:=hrange _ (hat 0 (by omega))
          have hr1:=hrange _ (hat (e.length-1) (by omega))
          have j7no: ∀xs,¬Fresh n ts used knots e (decide (i=0))→Tot (fun k=>impl_EarOk.j7 k known e xs ears (ears.length:Int) (i:Int) true n ts used) (fun b=>b=true↔Fresh n ts used knots e (decide (i=0))∧EarsFrom n ts (used++tiesOf e) (addK knots e) false (ears.drop (i+1))):=
            fun xs h=>Tot.step (fun k=>by rw[impl_EarOk.j7]) (Tot.pos rfl (Tot.ret (hbad h)))
          refine Tot.pos hr0.1 (Tot.pos hr0.2 (Tot.ite (fun hk0=>?_) (fun hk0=>j7no _ (fun hfr=>hk0 ((hkn _ (hat 0 (by omega))).mpr (hfr.2.2.1 hdf).1)))))
          refine Tot.pos hr1.1 (Tot.pos hr1.2 ?_)
          rw[show rdOf false known (e.getD (e.length-1) 0)=known.getD (e.getD (e.length-1) 0).toNat false from rfl]
          cases hk1:known.getD (e.getD (e.length-1) 0).toNat false with
          |false=>exact j7no _ (fun hfr=>by have:=(hkn _ (hat (e.length-1) (by omega))).mpr (hfr.2.2.1 hdf).2.1;rw[hk1]at this;cases this)
          | true=>
            have hin0:=(hkn _ (hat 0 (by omega))).mp hk0
            have hin1:=(hkn _ (hat (e.length-1) (by omega))).mp hk1
            rw[show(((e.length-1:Nat):Int)).toNat=e.length-1 by omega]
            have hlen:((e.take (e.length-1)).drop 1).length=e.length-2:=by rw[List.length_drop,List.length_take];omega
            refine Tot.step (fun k=>by rw[impl_EarOk.j7]) (Tot.neg (by simp) ?_)
            have hsub: ∀v∈(e.take (e.length-1)).drop 1,∃a,0<a∧a+1<e.length∧e.getD a 0=v:=by
              intro v hv
              obtain⟨a,ha,rfl⟩:=(mem_get 0 _ v).mp hv
              rw[hlen]at ha
              exact⟨a+1,by omega,by omega,(getD_inner e a (by omega)).symm⟩
            refine Tot.bind (different_tot _ (by rw[hlen];omega)) (fun b hb=>Tot.ite (fun hbt=>?_) (fun hbf=>Tot.ret (hbad (fun hfr=>hbf (hb.mpr ?_)))))
            · have hdif:=(diff_iff _).mp (hb.mp hbt)
              refine Tot.unf (fun k=>l1_eq k _ _ _ _ _ _ _ _ _ _ _) ?_
              refine inner_loop n ts used known ears i e _ (by rw[hlen];omega) (fun v hv=>hrange v (List.mem_of_mem_take (List.mem_of_mem_drop hv))) (fun hx=>hbad (fun hfr=>?_)) (fun hv=>?_) _ 0 rfl (by omega) (fun j hj=>by omega)
              · obtain⟨v,hv,hvk⟩:=hx
                obtain⟨a,ha0,ha1,rfl⟩:=hsub v hv
                exact((hfr.2.2.2 a (by omega)).2.2.1 ha0 ha1).1 ((hkn _ (hat a (by omega))).mp hvk)
              · refine hend (fun a b ha hab hb2 hb3 hx=>?_) (fun h=>by rw[hdf]at h;cases h) (fun _=>⟨hin0,hin1,hc1⟩) (fun _ j hj0 hj1 hm=>?_)
                · have hb3:=hb3 hdf
                  refine hdif (a-1) (b-1) (by omega) (by rw[hlen];omega) ?_
                  rw[getD_inner e _ (by omega),getD_inner e _ (by omega),show a-1+1=a by omega,show b-1+1=b by omega]
                  exact hx
                · exact hv (e.getD j 0) ((mem_get 0 _ _).mpr ⟨j-1,by rw[hlen];omega,by rw[getD_inner e _ (by omega),show j-1+1=j by omega]⟩) ((hkn _ (hat j (by omega))).mpr hm)
            · refine(diff_iff _).mpr (fun a b hab hb2 hx=>?_)
              rw[hlen]at hb2
              rw[getD_inner e _ (by omega),getD_inner e _ (by omega)]at hx
              exact((hfr.2.2.2 (b+1) (by omega)).2.2.1 (by omega) (by omega)).2 ((mem_take 0 e _ _).mpr ⟨a+1,by omega,by omega,hx⟩)
      refine Tot.step (fun k=>by rw[impl_EarOk.j2]) (Tot.neg (by simp) (Tot.pos (by omega) ?_))
      rw[w_pre _ (by omega) (by omega)]
      refine Tot.pos (by omega) (Tot.pos (by omega) ?_)
      rw[rd_nat,show rd e 0=e.getD 0 0 from rfl]
      refine Tot.ite (fun hcl=>?_) (fun hop=>?_)
      · have hno: ¬openE e:=fun h=>h.2 hcl
        refine Tot.ite (fun h4=>j3no _ _ _ (fun hfr=>?_)) (fun h4=>?_)
        · by_cases hi0:i=0
          · have:=(hfr.2.1 (decide_eq_true hi0)).2
            omega
          · rcases(hfr.2.2.1 (decide_eq_false hi0)).2.2 with h|h
            · exact hno h
            · omega
        · refine Tot.ite (fun hi0=>?_) (fun hi0=>j3yes (.inr (by omega)) (fun h=>by omega))
          rw[show(e.getD 0 0 !=e.getD (e.length-1) 0)=false from bne_eq_false_iff_eq.mpr hcl]
          exact j3yes (.inr (by omega)) (fun _=>hno)
      · have hyes:openE e:=⟨by omega,hop⟩
        refine Tot.ite (fun hi0=>?_) (fun hi0=>j3yes (.inl hyes) (fun h=>by omega))
        rw[show(e.getD 0 0 !=e.getD (e.length-1) 0)=true from bne_iff_ne.mpr hop]
        exact j3no _ _ _ (fun hfr=>(hfr.2.1 (decide_eq_true (by omega))).1 hyes)
theorem sumLen_mem: ∀(ears:List (List Int)) (e:List Int),e∈ears→e.length≤sumLen ears
  |[],e,h=>by cases h
  | x ::r,e,h=>by
    rw[List.mem_cons]at h
    rw[sumLen]
    rcases h with rfl|h
    · omega
    · have:=sumLen_mem r e h
      omega
theorem earsFrom_le{n:Int}{ts:List S57}: ∀(ears:List (List Int)) (taken:List S57) (knots:List Int) (first:Bool),EarsFrom n ts taken knots first ears→taken.length+ears.length≤ts.length
  | [],taken,knots,first,h=>by
    rw[EarsFrom]at h
    rw[List.length_nil]
    omega
  | e::r,taken,knots,first,h=>by
    rw[EarsFrom]at h
    have h1:=earsFrom_le r _ _ _ h.2
    have h2:=h.1.1
    rw[List.length_append,tiesOf_len]at h1
    rw[List.length_cons]
    omega
theorem implEarOk_tot(n:Int)(ts:List S57)(ears:List (List Int))(hl:ts.length<1099511627776)(hE:ears.length<1099511627776)(hS:sumLen ears<1099511627776):
    Tot (fun k=>impl_EarOk.f k n ts ears) (fun b=>b=true↔EarsOk n ts ears):=by
  have hno: ¬EarsOk n ts ears→Tot (fun k=>impl_EarOk.j0 k ears true n ts) (fun b=>b=true↔EarsOk n ts ears):=fun h=>
    Tot.step (fun k=>by rw[impl_EarOk.j0]) (Tot.pos rfl (Tot.ret ⟨fun e=>(by cases e),fun e=>absurd e h⟩))
  refine Tot.unf (fun k=>by rw[impl_EarOk.f]) ?_
  refine Tot.bind (implNetOk_tot n ts hl) (fun b hb=>Tot.ite (fun h=>?_) (fun h=>hno (fun hx=>h (hb.mpr hx.1))))
  have hn:=hb.mp h
  by_cases h0:ears.length=0
  · rw[show((ears.length:Int)==0)=true by rw[beq_iff_eq];omega]
    exact hno (fun hx=>by have:=hx.2.1;omega)
  · rw[show((ears.length:Int)==0)=false by rw[beq_eq_false_iff_ne];omega]
    have hn0:=hn.1
    have hn8:=hn.2.1
    refine Tot.step (fun k=>by rw[impl_EarOk.j0]) (Tot.neg (by simp) ?_)
    unfold mapNew.f
    refine Tot.some_ (Tot.pos hn0 (Tot.pos (by omega) ?_))
    refine(implEar_loop n ts ears hn hE hS (fun e he=>by have:=sumLen_mem ears e he;omega) _ 0 [] (List.replicate n.toNat false) [] rfl (by omega) ?_ (fun _=>⟨rfl,rfl⟩)).mono (fun r hr=>?_)
    · refine⟨List.length_replicate,fun v hv0 hv1=>?_,fun v hv=>(by cases hv),List.nodup_nil⟩
      rw[getD_get _ _ _ (by rw[List.length_replicate];omega),List.getElem_replicate]
      simp
    · rw[hr]
      refine⟨fun h3=>⟨hn,by omega,?_,h3⟩,fun h3=>h3.2.2.2⟩
      have:=earsFrom_le ears [] [] _ h3
      simpa using this
theorem addK_append: ∀(xs ys ks:List Int),addK ks (xs++ys)=addK (addK ks xs) ys
  |[],_,_=>rfl
  |x::r,ys,ks=>by rw[List.cons_append,addK,addK,addK_append r]
theorem addK_new: ∀(xs ks:List Int),xs.Nodup→(∀v∈xs,v∉ks)→addK ks xs=ks++xs
  |[],ks,_,_=>by rw[addK,List.append_nil]
  | x::r,ks,hn,h=>by
    rw[List.nodup_cons]at hn
    rw[addK,if_neg (h x List.mem_cons_self),addK_new r _ hn.2 (fun v hv hm=>?_),List.append_assoc,List.singleton_append]
    rw[List.mem_append,List.mem_singleton]at hm
    rcases hm with hm|hm
    · exact h v (List.mem_cons_of_mem _ hv) hm
    · exact hn.1 (hm▸hv)
theorem nodup_of(xs:List Int)(h: ∀a b,a<b→b<xs.length→xs.getD a 0≠xs.getD b 0):xs.Nodup:=by
  rw[List.nodup_iff_pairwise_ne,List.pairwise_iff_getElem]
  intro i j hi hj hij hx
  exact h i j hij hj (by rw[getD_get _ _ _ hi,getD_get _ _ _ hj];exact hx)
theorem addK_last(xs:List Int)(v:Int)(ks:List Int)(h:v∈addK ks xs):addK ks (xs++[v])=addK ks xs:=by
  rw[addK_append,addK,if_pos h,addK]
theorem take_last(e:List Int)(h:0<e.length):e=e.take (e.length-1)++[e.getD (e.length-1) 0]:=by
  have h1:=List.take_append_drop (e.length-1) e
  rw[drop_cons 0 e (e.length-1) (by omega),List.drop_eq_nil_of_le (by omega)]at h1
  exact h1.symm
theorem getD_take(e:List Int)(m a:Nat)(h:a<m)(h2:a<e.length):(e.take m).getD a 0=e.getD a 0:=by
  rw[getD_get _ _ _ (by rw[List.length_take];omega),List.getElem_take,getD_get _ _ _ h2]
theorem fresh_knots{n:Int}{ts taken:List S57}{knots e:List Int}{first:Bool}(h:Fresh n ts taken knots e first)(h0:first=true→knots=[]):
    (addK knots e).length+2=knots.length+e.length+(if first=true then 1 else 0):=by
  obtain⟨h2,hf,hnf,hat⟩:=h
  have hin: ∀a b,b<a→a+1<e.length→e.getD b 0≠e.getD a 0:=fun a b hb ha hx=>
    ((hat a (by omega)).2.2.1 (by omega) ha).2 ((mem_take 0 e a _).mpr ⟨b,hb,by omega,hx⟩)
  have hlen:(e.take (e.length-1)).length=e.length-1:=by rw[List.length_take];omega
  cases first with
  | true=>
    have hk:=h0 rfl
    subst hk
    have hc:=(hf rfl).1
    unfold openE at hc
    have hc2:e.getD 0 0=e.getD (e.length-1) 0:=Classical.byContradiction (fun h=>hc ⟨by omega,h⟩)
    have hnew:addK [] (e.take (e.length-1))=e.take (e.length-1):=by
      rw[addK_new _ _ (nodup_of _ (fun a b hab hb hx=>?_)) (fun v _ h=>by cases h),List.nil_append]
      rw[hlen]at hb
      rw[getD_take e _ a (by omega) (by omega),getD_take e _ b (by omega) (by omega)]at hx
      exact hin b a hab (by omega) hx
    have hl:=take_last e (by omega)
    have:addK [] e=e.take (e.length-1):=by
      have h3:=addK_last (e.take (e.length-1)) (e.getD (e.length-1) 0) [] (by
        rw[hnew,←hc2]
        exact(mem_take 0 e _ _).mpr ⟨0,by omega,by omega,rfl⟩)
      rw[←hl,hnew]at h3
      exact h3
    rw[this,hlen,if_pos rfl,List.length_nil]
    omega
  | false=>
    obtain⟨hk0,hk1,hc⟩:=hnf rfl
    have hl:=take_last e (by omega)
    have hcons:e.take (e.length-1)=e.getD 0 0::(e.take (e.length-1)).drop 1:=by
      have h3:=drop_cons 0 (e.take (e.length-1)) 0 (by rw[hlen];omega)
      rw[List.drop_zero,getD_take e _ 0 (by omega) (by omega)]at h3
      exact h3
    have hnew:addK knots ((e.take (e.length-1)).drop 1)=knots++(e.take (e.length-1)).drop 1:=by
      have hlen2:((e.take (e.length-1)).drop 1).length=e.length-2:=by rw[List.length_drop,hlen];omega
      refine addK_new _ _ (nodup_of _ (fun a b hab hb hx=>?_)) (fun v hv hm=>?_)
      · rw[hlen2]at hb
        rw[getD_inner e a (by omega),getD_inner e b (by omega)]at hx
        exact hin (b+1) (a+1) (by omega) (by omega) hx
      · obtain⟨a,ha,rfl⟩:=(mem_get 0 _ v).mp hv
        rw[hlen2]at ha
        rw[getD_inner e a (by omega)]at hm
        exact((hat (a+1) (by omega)).2.2.1 (by omega) (by omega)).1 hm
    have h4:addK knots (e.take (e.length-1))=knots++(e.take (e.length-1)).drop 1:=by
      rw[hcons,addK,if_pos hk0,←hcons,hnew]
    have h5:=addK_last (e.take (e.length-1)) (e.getD (e.length-1) 0) knots (by rw[h4];exact List.mem_append.mpr (.inl hk1))
    rw[←hl,h4]at h5
    rw[h5,List.length_append,List.length_drop,hlen,if_neg (by simp)]
    omega
theorem earsFrom_count{n:Int}{ts:List S57}: ∀(ears:List (List Int)) (taken:List S57) (knots:List Int),EarsFrom n ts taken knots false ears→(ears.length:Int)=(ts.length:Int)-n-((taken.length:Int)-(knots.length:Int))
  | [],taken,knots,h=>by
    rw[EarsFrom]at h
    rw[List.length_nil]
    omega
  | e::r,taken,knots,h=>by
    rw[EarsFrom]at h
    have h1:=earsFrom_count r _ _ h.2
    have h2:=h.1.1
    have h3:=fresh_knots h.1 (fun h=>by cases h)
    rw[if_neg (by simp)]at h3
    rw[List.length_append,tiesOf_len]at h1
    rw[List.length_cons]
    omega
theorem earsOk_count{n:Int}{ts:List S57}{ears:List (List Int)}(h:EarsOk n ts ears):(ears.length:Int)=(ts.length:Int)-n+1:=by
  obtain⟨_,h1,_,h⟩:=h
  match ears,h1,h with
  | e::r,_,h=>
    rw[EarsFrom]at h
    have h1:=earsFrom_count r _ _ h.2
    have h2:=h.1.1
    have h3:=fresh_knots h.1 (fun _=>rfl)
    rw[if_pos rfl,List.length_nil]at h3
    rw[List.length_append,tiesOf_len,List.length_nil]at h1
    rw[List.length_cons]
    omega
theorem xor_pos(a b:Int)(ha:0≤a)(ha2:a<4611686018427387904)(hb:0≤b)(hb2:b<4611686018427387904):0≤Go.bits .xor .i64 a b∧Go.bits .xor .i64 a b<4611686018427387904:=by
  obtain⟨x,rfl⟩:=Int.eq_ofNat_of_zero_le ha
  obtain⟨y,rfl⟩:=Int.eq_ofNat_of_zero_le hb
  have h1:x<2^62:=by omega
  have h2:y<2^62:=by omega
  have h3:=Nat.xor_lt_two_pow h1 h2
  have ha':x%2^IntKind.i64.bits=x:=Nat.mod_eq_of_lt (Nat.lt_of_lt_of_le h1 (by decide))
  have hb':y%2^IntKind.i64.bits=y:=Nat.mod_eq_of_lt (Nat.lt_of_lt_of_le h2 (by decide))
  have h4:Go.bits .xor .i64 (x:Int) (y:Int)=((x^^^y:Nat):Int):=by
    simp only[Go.bits,BitVec.ofInt_natCast,BitVec.toNat_xor,BitVec.toNat_ofNat,ha',hb']
    rw[IntKind.wrap_i64]
    omega
  have h5:Go.bits .xor .i64 (Int.ofNat x) (Int.ofNat y)=((x^^^y:Nat):Int):=h4
  omega
def Bytes(s:List Int):Prop:=s.length≤2000∧ ∀x∈s,0≤x∧x≤255
theorem bytes_rd{s:List Int}(h:Bytes s)(i:Int)(h0:0≤i)(h1:i<s.length):0≤rd s i∧rd s i≤255:=
  h.2 _ ((mem_get 0 s _).mpr ⟨i.toNat,by omega,rfl⟩)
theorem pick_tot(s:List Int)(p n:Int)(hs:Bytes s)(hp:0≤p)(hp2:p<1099511627776)(hn:n<1099511627776):
    Tot (fun k=>spec_l6Rd_pick.f k s p n) (fun r=>r.2=p+1∧0≤r.1∧(1≤n→r.1<n)∧(n<1→r.1=0)):=by
  refine Tot.unf (fun k=>by rw[spec_l6Rd_pick.f]) ?_
  rw[w_int (p+1) (by omega) (by omega)]
  refine Tot.ite (fun h=>?_) (fun h=>?_)
  · exact Tot.step (fun k=>by rw[spec_l6Rd_pick.j0]) (Tot.pos rfl (Tot.ret ⟨rfl,by omega,fun h2=>by omega,fun _=>rfl⟩))
  · refine Tot.step (fun k=>by rw[spec_l6Rd_pick.j0]) (Tot.ite (fun h2=>Tot.ret ⟨rfl,by omega,fun h2=>by omega,fun _=>rfl⟩) (fun h2=>?_))
    have h3:s.length≠0:=fun e=>h2 (by rw[beq_iff_eq];omega)
    rw[w_int (p+1-1) (by omega) (by omega),show p+1-1=p by omega]
    have hpos: ∀x:Int,0≤x→(fun r:Int×Int=>r.2=p+1∧0≤r.1∧(1≤n→r.1<n)∧(n<1→r.1=0)) (Int.tmod x n,p+1):=by
      intro x hx
      refine⟨rfl,?_,fun hn1=>?_,fun hn1=>by omega⟩
      · exact Int.tmod_nonneg _ hx
      · rw[Int.tmod_eq_emod_of_nonneg hx]
        exact Int.emod_lt_of_pos _ (by omega)
    refine Tot.ite (fun h4=>?_) (fun h4=>?_)
    · have hb:=bytes_rd hs p hp h4
      refine Tot.pos hp (Tot.neg (by omega) (Tot.ret (hpos _ ?_)))
      rw[w_int _ (by omega) (by omega)]
      exact hb.1
    · have hl:=hs.1
      have hm: ∀x:Int,0≤x→0≤Int.tmod x (s.length:Int)∧Int.tmod x (s.length:Int)<(s.length:Int):=by
        intro x hx
        rw[Int.tmod_eq_emod_of_nonneg hx]
        exact⟨Int.emod_nonneg _ (by omega),Int.emod_lt_of_pos _ (by omega)⟩
      have hm1:=hm p hp
      rw[w_int (p*7) (by omega) (by omega),w_int (p*7+3) (by omega) (by omega)]
      have hm2:=hm (p*7+3) (by omega)
      have hb1:=bytes_rd hs _ hm1.1 hm1.2
      have hb2:=bytes_rd hs _ hm2.1 hm2.2
      have hd:0≤Int.tdiv p (s.length:Int)∧Int.tdiv p (s.length:Int)≤p:=by
        rw[Int.tdiv_eq_ediv_of_nonneg hp]
        exact⟨Int.ediv_nonneg hp (by omega),Int.ediv_le_self _ hp⟩
      refine Tot.neg (by omega) (Tot.pos hm1.1 (Tot.pos hm1.2 (Tot.pos hm2.1 (Tot.pos hm2.2 (Tot.neg (by omega) (Tot.ret (hpos _ ?_)))))))
      generalize rd s (Int.tmod p (s.length:Int))=x at hb1⊢
      generalize rd s (Int.tmod (p*7+3) (s.length:Int))=y at hb2⊢
      generalize Int.tdiv p (s.length:Int)=z at hd⊢
      rw[w_int x (by omega) (by omega),w_int y (by omega) (by omega),w_int z (by omega) (by omega),w_int (x*131) (by omega) (by omega),w_int (y*1117) (by omega) (by omega),
        w_int (x*131+y*1117) (by omega) (by omega),w_int (p*29) (by omega) (by omega),w_int (x*131+y*1117+p*29) (by omega) (by omega),w_int (z*53) (by omega) (by omega),
        w_int (x*131+y*1117+p*29+z*53) (by omega) (by omega)]
      have hq:0≤x*131+y*1117+p*29+z*53∧x*131+y*1117+p*29+z*53<4611686018427387904:=by omega
      generalize x*131+y*1117+p*29+z*53=q at hq⊢
      have hq2:0≤Int.tdiv q 64∧Int.tdiv q 64≤q:=by
        rw[Int.tdiv_eq_ediv_of_nonneg hq.1]
        omega
      rw[w_int (Int.tdiv q 64) (by omega) (by omega)]
      exact(xor_pos q (Int.tdiv q 64) hq.1 hq.2 hq2.1 (by omega)).1
theorem netAdd_loop(n a b:Int)(ts:List S57)(t:S57)(hl:ts.length≤64): ∀d m (x:Bool) (ys:List S57),ts.length-m=d→m≤ts.length→ys.length≤m+(if x=true then 1 else 0)→
    Tot (fun k=>spec_NetAdd.l0 k x (m:Int) n ts n ys t.f0 t.f1) (fun r=>r.1=n∧r.2.1.length≤65):=by
  intro d
  induction d with
  | zero=>
    intro m x ys hd hm hy
    refine Tot.step (fun k=>by rw[spec_NetAdd.l0]) (Tot.neg (by omega) (Tot.ite (fun h=>Tot.ret ⟨rfl,?_⟩) (fun h=>?_)))
    · rw[if_pos h]at hy
      show ys.length≤65
      omega
    · rw[if_neg h]at hy
      refine Tot.pos (by omega) (Tot.ret ⟨rfl,?_⟩)
      rw[List.length_append,List.length_singleton]
      omega
  | succ d ih=>
    intro m x ys hd hm hy
    refine Tot.step (fun k=>by rw[spec_NetAdd.l0]) (Tot.pos (by omega) (Tot.ite (fun h=>?_) (fun h=>?_)))
    · subst h
      rw[if_pos rfl]at hy
      rw[w_suc m (by omega)]
      exact Tot.pos (by omega) (Tot.pos (by omega) (ih (m+1) true _ (by omega) (by omega) (by rw[List.length_append,List.length_singleton,if_pos rfl];omega)))
    · rw[if_neg h]at hy
      rw[w_suc m (by omega),rdT_nat]
      refine Tot.pos (by omega) ?_
      rw[l1Less_eq]
      refine Tot.some_ (Tot.ite (fun h2=>Tot.pos (by omega) (Tot.some_ (Tot.pos (by rw[List.length_append,List.length_singleton];omega) ?_))) (fun h2=>Tot.pos (by omega) ?_))
      · exact ih (m+1) true _ (by omega) (by omega) (by rw[List.length_append,List.length_append,List.length_singleton,List.length_singleton,if_pos rfl];omega)
      · exact ih (m+1) x _ (by omega) (by omega) (by rw[List.length_append,List.length_singleton,if_neg h];omega)
def Sm(n:Int)(ts:List S57):Prop:= -1≤n∧n≤9∧ts.length≤66
theorem netAdd_tot(n:Int)(ts:List S57)(a b:Int)(hn: -1≤n∧n≤9):Tot (fun k=>spec_NetAdd.f k n ts a b) (fun r=> -1≤r.1∧r.1≤9∧r.2.1.length≤65∧(r.1=0∨r.1=n)):=by
  have hno: ∀k:Unit,Tot (fun k=>spec_NetAdd.j0 k a b true n ts) (fun r=> -1≤r.1∧r.1≤9∧r.2.1.length≤65∧(r.1=0∨r.1=n)):=fun _=>
    Tot.step (fun k=>by rw[spec_NetAdd.j0]) (Tot.pos rfl (Tot.ret ⟨by decide,by decide,by decide,.inl rfl⟩))
  refine Tot.unf (fun k=>by rw[spec_NetAdd.f]) ?_
  refine Tot.bind (l1Knot_tot n ts a) (fun x hx=>Tot.ite (fun h=>?_) (fun h=>hno ()))
  have hok:=(hx.mp h).1
  refine Tot.bind (l1Knot_tot n ts b) (fun y hy=>Tot.ite (fun h2=>?_) (fun h2=>hno ()))
  refine Tot.ite (fun h3=>hno ()) (fun h3=>Tot.bind (netHas_tot n ts a b) (fun z hz=>?_))
  cases z with
  |true=>exact hno ()
  | false=>
    refine Tot.step (fun k=>by rw[spec_NetAdd.j0]) (Tot.neg (by simp) ?_)
    rw[l1Tie_eq]
    refine Tot.some_ ?_
    refine(netAdd_loop n a b ts (tieP a b) (netOk_len hok) _ 0 false [] rfl (by omega) (by simp)).mono (fun r hr=>?_)
    rw[hr.1]
    exact⟨hn.1,hn.2,hr.2,.inr rfl⟩
def Dn(q:Int)(r:Int×List S57×Int):Prop:=Sm r.1 r.2.1∧0≤r.2.2∧r.2.2≤q
theorem net_l2(s:List Int)(hs:Bytes s): ∀(d:Nat) (x6 p n:Int) (ts:List S57),x6≤(d:Int)→Sm n ts→0≤p→p+2*(d:Int)<1099511627776→ -1≤x6→
    Tot (fun k=>spec_l71Net.l2 k x6 s p n ts) (Dn (p+2*(d:Int))):=by
  intro d
  induction d with
  | zero=>
    intro x6 p n ts hx hn h0 hp hx0
    refine Tot.step (fun k=>by rw[spec_l71Net.l2]) (Tot.neg (by omega) ?_)
    exact Tot.step (fun k=>by rw[spec_l71Net.j4]) (Tot.neg (by simp) (Tot.ret ⟨hn,h0,by show p≤_;omega⟩))
  | succ d ih=>
    intro x6 p n ts hx hn h0 hp hx0
    have hend:Tot (fun k=>spec_l71Net.j4 k x6 false s p n ts) (Dn (p+2*((d+1:Nat):Int))):=
      Tot.step (fun k=>by rw[spec_l71Net.j4]) (Tot.neg (by simp) (Tot.ret ⟨hn,h0,by show p≤_;omega⟩))
    refine Tot.step (fun k=>by rw[spec_l71Net.l2]) (Tot.ite (fun h=>?_) (fun h=>hend))
    by_cases h1:n>1
    · rw[decide_eq_true h1]
      have hn2:=hn.2.1
      refine Tot.step (fun k=>by rw[spec_l71Net.j4]) (Tot.pos rfl ?_)
      refine Tot.bind (pick_tot s p n hs h0 (by omega) (by omega)) (fun a ha=>?_)
      refine Tot.bind (pick_tot s a.2 n hs (by omega) (by omega) (by omega)) (fun b hb=>?_)
      refine Tot.bind (netAdd_tot n ts a.1 b.1 ⟨hn.1,hn.2.1⟩) (fun c hc=>?_)
      rw[w_int (x6-1) (by omega) (by omega),show b.2=p+2 by omega]
      refine Tot.ite (fun h2=>?_) (fun h2=>?_)
      · exact(ih (x6-1) (p+2) c.1 c.2.1 (by omega) ⟨hc.1,hc.2.1,by omega⟩ (by omega) (by omega) (by omega)).mono (fun r hr=>⟨hr.1,hr.2.1,by have:=hr.2.2;omega⟩)
      · exact(ih (x6-1) (p+2) n ts (by omega) hn (by omega) (by omega) (by omega)).mono (fun r hr=>⟨hr.1,hr.2.1,by have:=hr.2.2;omega⟩)
    · rw[decide_eq_false h1]
      exact hend
theorem net_j2(s:List Int)(hs:Bytes s)(p n:Int)(ts:List S57)(hn:Sm n ts)(h0:0≤p)(hp:p+100<1099511627776):Tot (fun k=>spec_l71Net.j2 k s p n ts) (Dn (p+27)):=by
  refine Tot.step (fun k=>by rw[spec_l71Net.j2]) (Tot.bind (pick_tot s p 13 hs h0 (by omega) (by omega)) (fun a ha=>?_))
  have:=ha.2.2.1 (by omega)
  refine(net_l2 s hs 13 a.1 a.2 n ts (by omega) hn (by omega) (by omega) (by omega)).mono (fun r hr=>⟨hr.1,hr.2.1,by have:=hr.2.2;omega⟩)
theorem net_l0(s:List Int)(hs:Bytes s): ∀(d:Nat) (x4 p n:Int) (ts:List S57),n-x4≤(d:Int)→0≤x4→x4≤20→Sm n ts→0≤p→p+d+200<1099511627776→Tot (fun k=>spec_l71Net.l0 k x4 s p n ts) (Dn (p+d+27)):=by
  intro d
  induction d with
  | zero=>
    intro x4 p n ts hx hx0 hx1 hn h0 hp
    refine Tot.step (fun k=>by rw[spec_l71Net.l0]) (Tot.neg (by omega) ?_)
    exact(net_j2 s hs p n ts hn h0 (by omega)).mono (fun r hr=>⟨hr.1,hr.2.1,by have:=hr.2.2;omega⟩)
  | succ d ih=>
    intro x4 p n ts hx hx0 hx1 hn h0 hp
    have hn1:=hn.1
    have hn2:=hn.2.1
    refine Tot.step (fun k=>by rw[spec_l71Net.l0]) (Tot.ite (fun h=>?_) (fun h=>(net_j2 s hs p n ts hn h0 (by omega)).mono (fun r hr=>⟨hr.1,hr.2.1,by have:=hr.2.2;omega⟩)))
    refine Tot.bind (pick_tot s p x4 hs h0 (by omega) (by omega)) (fun a ha=>?_)
    refine Tot.bind (netAdd_tot n ts x4 a.1 ⟨hn.1,hn.2.1⟩) (fun c hc=>?_)
    rw[w_int (x4+1) (by omega) (by omega),ha.1]
    exact(ih (x4+1) (p+1) c.1 c.2.1 (by omega) (by omega) (by omega) ⟨hc.1,hc.2.1,by omega⟩ (by omega) (by omega)).mono (fun r hr=>⟨hr.1,hr.2.1,by have:=hr.2.2;omega⟩)
theorem net_l1(s:List Int)(hs:Bytes s): ∀(d:Nat) (x5 p n:Int) (ts:List S57),n-x5≤(d:Int)→0≤x5→x5≤20→Sm n ts→0≤p→p+200<1099511627776→Tot (fun k=>spec_l71Net.l1 k x5 s p n ts) (Dn (p+27)):=by
  intro d
  induction d with
  | zero=>
    intro x4 p n ts hx hx0 hx1 hn h0 hp
    refine Tot.step (fun k=>by rw[spec_l71Net.l1]) (Tot.neg (by omega) ?_)
    exact net_j2 s hs p n ts hn h0 (by omega)
  | succ d ih=>
    intro x4 p n ts hx hx0 hx1 hn h0 hp
    have hn1:=hn.1
    have hn2:=hn.2.1
    refine Tot.step (fun k=>by rw[spec_l71Net.l1]) (Tot.ite (fun h=>?_) (fun h=>net_j2 s hs p n ts hn h0 (by omega)))
    refine Tot.ite (fun h2=>Tot.neg (by omega) ?_) (fun h2=>net_j2 s hs p n ts hn h0 (by omega))
    refine Tot.bind (netAdd_tot n ts x4 _ ⟨hn.1,hn.2.1⟩) (fun c hc=>?_)
    rw[w_int (x4+1) (by omega) (by omega)]
    exact ih (x4+1) p c.1 c.2.1 (by omega) (by omega) (by omega) ⟨hc.1,hc.2.1,by omega⟩ h0 hp
theorem net_tot(s:List Int)(hs:Bytes s)(p:Int)(h0:0≤p)(hp:p+1000<1099511627776):Tot (fun k=>spec_l71Net.f k s p) (Dn (p+100)):=by
  refine Tot.unf (fun k=>by rw[spec_l71Net.f]) ?_
  refine Tot.bind (pick_tot s p 8 hs h0 (by omega) (by omega)) (fun a ha=>?_)
  refine Tot.bind (pick_tot s a.2 6 hs (by omega) (by omega) (by omega)) (fun b hb=>?_)
  have:=ha.2.2.1 (by omega)
  rw[w_int (1+a.1) (by omega) (by omega)]
  have hsm:Sm (1+a.1) []:=⟨by omega,by omega,by simp⟩
  refine Tot.ite (fun h=>?_) (fun h=>Tot.ite (fun h2=>?_) (fun h2=>?_))
  · exact(net_l0 s hs 9 1 b.2 _ _ (by omega) (by omega) (by omega) hsm (by omega) (by omega)).mono (fun r hr=>⟨hr.1,hr.2.1,by have:=hr.2.2;omega⟩)
  · exact(net_l1 s hs 9 0 b.2 _ _ (by omega) (by omega) (by omega) hsm (by omega) (by omega)).mono (fun r hr=>⟨hr.1,hr.2.1,by have:=hr.2.2;omega⟩)
  · exact(net_j2 s hs b.2 _ _ hsm (by omega) (by omega)).mono (fun r hr=>⟨hr.1,hr.2.1,by have:=hr.2.2;omega⟩)
def Sp(n:Int)(ts:List S57):Prop:= -1≤n∧n≤9∧ts.length≤67
def Dp(q:Int)(r:Int×List S57×Int):Prop:=Sp r.1 r.2.1∧0≤r.2.2∧r.2.2≤q
theorem copy_eq(n:Int)(ts:List S57)(h:ts.length≤100):spec_l1Copy.f n ts=some (n,ts):=by
  unfold spec_l1Copy.f
  simp only[Option.bind_some,List.length_nil,Nat.zero_add,List.nil_append]
  rw[if_pos (by omega)]
theorem spoil_tot(s:List Int)(hs:Bytes s)(p n:Int)(ts:List S57)(hn:Sm n ts)(h0:0≤p)(hp:p+1000<1099511627776):Tot (fun k=>spec_l71Spoil.f k s p n ts) (Dp (p+10)):=by
  have hn1:=hn.1
  have hn2:=hn.2.1
  have hn3:=hn.2.2
  refine Tot.unf (fun k=>by rw[spec_l71Spoil.f]) ?_
  rw[copy_eq n ts (by omega)]
  refine Tot.some_ (Tot.bind (pick_tot s p 6 hs h0 (by omega) (by omega)) (fun a ha=>?_))
  refine Tot.ite (fun h=>Tot.some_ ?_) (fun h=>?_)
  · refine Tot.bind (pick_tot s a.2 5 hs (by omega) (by omega) (by omega)) (fun b hb=>?_)
    have hb2:=hb.2.2.1 (by omega)
    have hb1:=hb.2.1
    refine Tot.pos hb1 (Tot.pos (by simpa using hb2) (Tot.ret ⟨?_,by show 0≤b.2;omega,by show b.2≤_;omega⟩))
    have:b.1=0∨b.1=1∨b.1=2∨b.1=3∨b.1=4:=by omega
    refine⟨?_,?_,by show ts.length≤67;omega⟩
    · show-1≤rd [-1,0,1,8,9] b.1
      rcases this with e|e|e|e|e<;>rw[e]<;>decide
    · show rd [-1,0,1,8,9] b.1≤9
      rcases this with e|e|e|e|e<;>rw[e]<;>decide
  refine Tot.ite (fun h1=>?_) (fun h1=>?_)
  · refine Tot.bind (pick_tot s a.2 3 hs (by omega) (by omega) (by omega)) (fun b hb=>?_)
    refine Tot.bind (pick_tot s b.2 3 hs (by omega) (by omega) (by omega)) (fun c hc=>?_)
    refine Tot.pos (by show ts.length<_;omega) (Tot.ret ⟨⟨hn1,hn2,?_⟩,by show 0≤c.2;omega,by show c.2≤_;omega⟩)
    show(ts++[_]).length≤67
    rw[List.length_append,List.length_singleton]
    omega
  refine Tot.ite (fun h2=>?_) (fun h2=>?_)
  · refine Tot.pos (by show ts.length<_;omega) (Tot.ret ⟨⟨hn1,hn2,?_⟩,by show 0≤a.2;omega,by show a.2≤_;omega⟩)
    show(ts++[_]).length≤67
    rw[List.length_append,List.length_singleton]
    omega
  refine Tot.ite (fun h3=>?_) (fun h3=>?_)
  · refine Tot.ite (fun h4=>?_) (fun h4=>Tot.ret ⟨⟨hn1,hn2,by show ts.length≤67;omega⟩,by show 0≤a.2;omega,by show a.2≤_;omega⟩)
    refine Tot.bind (pick_tot s a.2 _ hs (by omega) (by omega) (by show(ts.length:Int)<_;omega)) (fun b hb=>?_)
    refine Tot.pos hb.2.1 (Tot.pos (hb.2.2.1 (by omega)) (Tot.ret ⟨⟨hn1,hn2,?_⟩,by show 0≤b.2;omega,by show b.2≤_;omega⟩))
    show(ts.set _ _).length≤67
    rw[List.length_set]
    omega
  refine Tot.ite (fun h4=>?_) (fun h4=>Tot.some_ ?_)
  · refine Tot.ite (fun h5=>?_) (fun h5=>Tot.ret ⟨⟨hn1,hn2,by show ts.length≤67;omega⟩,by show 0≤a.2;omega,by show a.2≤_;omega⟩)
    refine Tot.pos (by omega) (Tot.pos (by show ts.length<_;omega) (Tot.ret ⟨⟨hn1,hn2,?_⟩,by show 0≤a.2;omega,by show a.2≤_;omega⟩))
    show(ts++[_]).length≤67
    rw[List.length_append,List.length_singleton]
    omega
  · refine Tot.pos (by show[_].length+ts.length<_;rw[List.length_singleton];omega) (Tot.ret ⟨⟨hn1,hn2,?_⟩,by show 0≤a.2;omega,by show a.2≤_;omega⟩)
    show([_]++ts).length≤67
    rw[List.length_append,List.length_singleton]
    omega
theorem any_tot(s:List Int)(hs:Bytes s)(p:Int)(h0:0≤p)(hp:p+2000<1099511627776):Tot (fun k=>spec_l71Any.f k s p) (Dp (p+200)):=by
  refine Tot.unf (fun k=>by rw[spec_l71Any.f]) ?_
  refine Tot.bind (net_tot s hs p h0 (by omega)) (fun r hr=>?_)
  have hq:=hr.2.2
  have hq0:=hr.2.1
  refine Tot.bind (pick_tot s r.2.2 12 hs hr.2.1 (by omega) (by omega)) (fun a ha=>Tot.ite (fun h=>?_) (fun h=>?_))
  · refine Tot.bind (spoil_tot s hs a.2 r.1 r.2.1 hr.1 (by omega) (by omega)) (fun c hc=>Tot.ret ?_)
    exact⟨hc.1,hc.2.1,by have:=hc.2.2;show c.2.2≤_;omega⟩
  · exact Tot.ret ⟨⟨hr.1.1,hr.1.2.1,by have:=hr.1.2.2;show r.2.1.length≤67;omega⟩,by show 0≤a.2;omega,by show a.2≤_;omega⟩
theorem ring_l2(s:List Int)(hs:Bytes s): ∀(d:Nat) (x p n:Int) (ts:List S57),x≤(d:Int)→ -1≤x→Sm n ts→0≤p→p+2*(d:Int)+3000<1099511627776→Tot (fun k=>spec_l71Ring.l2 k x s p n ts) (Dp (p+2*(d:Int)+300)):=by
  intro d
  have hend: ∀(D:Nat) (x p n:Int) (ts:List S57),¬x>0→Sm n ts→0≤p→p+2*(D:Int)+3000<1099511627776→Tot (fun k=>spec_l71Ring.l2 k x s p n ts) (Dp (p+2*(D:Int)+300)):=by
    intro D x p n ts h hn h0 hp
    refine Tot.step (fun k=>by rw[spec_l71Ring.l2]) (Tot.neg h (Tot.bind (pick_tot s p 8 hs h0 (by omega) (by omega)) (fun a ha=>Tot.ite (fun h1=>?_) (fun h1=>?_))))
    · refine Tot.bind (any_tot s hs a.2 (by omega) (by omega)) (fun c hc=>Tot.ret ⟨hc.1,hc.2.1,?_⟩)
      have:=hc.2.2
      show c.2.2≤_
      omega
    · exact Tot.ret ⟨⟨hn.1,hn.2.1,by have:=hn.2.2;show ts.length≤67;omega⟩,by show 0≤a.2;omega,by show a.2≤_;omega⟩
  induction d with
  | zero=>
    intro x p n ts hx hx0 hn h0 hp
    exact hend 0 x p n ts (by omega) hn h0 hp
  | succ d ih=>
    intro x p n ts hx hx0 hn h0 hp
    by_cases h:x>0
    · have hn2:=hn.2.1
      refine Tot.step (fun k=>by rw[spec_l71Ring.l2]) (Tot.pos h ?_)
      refine Tot.bind (pick_tot s p n hs h0 (by omega) (by omega)) (fun a ha=>?_)
      refine Tot.bind (pick_tot s a.2 n hs (by omega) (by omega) (by omega)) (fun b hb=>?_)
      refine Tot.bind (netAdd_tot n ts a.1 b.1 ⟨hn.1,hn.2.1⟩) (fun c hc=>?_)
      rw[w_int (x-1) (by omega) (by omega),show b.2=p+2 by omega]
      refine Tot.ite (fun h2=>?_) (fun h2=>?_)
      · exact(ih (x-1) (p+2) c.1 c.2.1 (by omega) (by omega) ⟨hc.1,hc.2.1,by omega⟩ (by omega) (by omega)).mono (fun r hr=>⟨hr.1,hr.2.1,by have:=hr.2.2;omega⟩)
      · exact(ih (x-1) (p+2) n ts (by omega) (by omega) hn (by omega) (by omega)).mono (fun r hr=>⟨hr.1,hr.2.1,by have:=hr.2.2;omega⟩)
    · exact hend (d+1) x p n ts h hn h0 hp
theorem ring_l1(s:List Int)(hs:Bytes s): ∀(d:Nat) (x p n:Int) (ts:List S57),n-x≤(d:Int)→1≤x→x≤30→Sm n ts→0≤p→p+2*(d:Int)+4000<1099511627776→Tot (fun k=>spec_l71Ring.l1 k x s p n ts) (Dp (p+2*(d:Int)+400)):=by
  intro d
  have hend: ∀(D:Nat) (x p n:Int) (ts:List S57),¬x<n→Sm n ts→0≤p→p+2*(D:Int)+4000<1099511627776→Tot (fun k=>spec_l71Ring.l1 k x s p n ts) (Dp (p+2*(D:Int)+400)):=by
    intro D x p n ts h hn h0 hp
    refine Tot.step (fun k=>by rw[spec_l71Ring.l1]) (Tot.neg h (Tot.bind (pick_tot s p 5 hs h0 (by omega) (by omega)) (fun a ha=>?_)))
    have:=ha.2.2.1 (by omega)
    exact(ring_l2 s hs 5 a.1 a.2 n ts (by omega) (by omega) hn (by omega) (by omega)).mono (fun r hr=>⟨hr.1,hr.2.1,by have:=hr.2.2;omega⟩)
  induction d with
  | zero=>
    intro x p n ts hx hx0 hx1 hn h0 hp
    exact hend 0 x p n ts (by omega) hn h0 hp
  | succ d ih=>
    intro x p n ts hx hx0 hx1 hn h0 hp
    by_cases h:x<n
    · have hn2:=hn.2.1
      refine Tot.step (fun k=>by rw[spec_l71Ring.l1]) (Tot.pos h ?_)
      refine Tot.bind (pick_tot s p x hs h0 (by omega) (by omega)) (fun a ha=>?_)
      refine Tot.bind (netAdd_tot n ts x a.1 ⟨hn.1,hn.2.1⟩) (fun c hc=>?_)
      rw[w_int (x-1) (by omega) (by omega)]
      refine Tot.bind (pick_tot s a.2 (x-1) hs (by omega) (by omega) (by omega)) (fun b hb=>?_)
      refine Tot.neg (by omega) (Tot.bind (netAdd_tot c.1 c.2.1 x _ ⟨hc.1,hc.2.1⟩) (fun e he=>?_))
      rw[w_int (x+1) (by omega) (by omega),show b.2=p+2 by omega]
      exact(ih (x+1) (p+2) e.1 e.2.1 (by omega) (by omega) (by omega) ⟨he.1,he.2.1,by omega⟩ (by omega) (by omega)).mono (fun r hr=>⟨hr.1,hr.2.1,by have:=hr.2.2;omega⟩)
    · exact hend (d+1) x p n ts h hn h0 hp
theorem ring_l0(s:List Int)(hs:Bytes s)(x4:Int)(h4:3≤x4)(h42:x4≤30): ∀(d:Nat) (x p n:Int) (ts:List S57),x4-x≤(d:Int)→0≤x→Sm n ts→0≤p→p+5000<1099511627776→Tot (fun k=>spec_l71Ring.l0 k x4 x s p n ts) (Dp (p+500)):=by
  intro d
  have hend: ∀(x p n:Int) (ts:List S57),¬x<x4→Sm n ts→0≤p→p+5000<1099511627776→Tot (fun k=>spec_l71Ring.l0 k x4 x s p n ts) (Dp (p+500)):=by
    intro x p n ts h hn h0 hp
    have hn2:=hn.2.1
    refine Tot.step (fun k=>by rw[spec_l71Ring.l0]) (Tot.neg h ?_)
    exact(ring_l1 s hs 9 x4 p n ts (by omega) (by omega) (by omega) hn (by omega) (by omega)).mono (fun r hr=>⟨hr.1,hr.2.1,by have:=hr.2.2;omega⟩)
  induction d with
  | zero=>
    intro x p n ts hx hx0 hn h0 hp
    exact hend x p n ts (by omega) hn h0 hp
  | succ d ih=>
    intro x p n ts hx hx0 hn h0 hp
    by_cases h:x<x4
    · refine Tot.step (fun k=>by rw[spec_l71Ring.l0]) (Tot.pos h (Tot.neg (by omega) ?_))
      refine Tot.bind (netAdd_tot n ts x _ ⟨hn.1,hn.2.1⟩) (fun c hc=>?_)
      rw[w_int (x+1) (by omega) (by omega)]
      exact ih (x+1) p c.1 c.2.1 (by omega) (by omega) ⟨hc.1,hc.2.1,by omega⟩ h0 hp
    · exact hend x p n ts h hn h0 hp
theorem ring_tot(s:List Int)(hs:Bytes s)(p:Int)(h0:0≤p)(hp:p+6000<1099511627776):Tot (fun k=>spec_l71Ring.f k s p) (Dp (p+600)):=by
  refine Tot.unf (fun k=>by rw[spec_l71Ring.f]) ?_
  refine Tot.bind (pick_tot s p 6 hs h0 (by omega) (by omega)) (fun a ha=>?_)
  have:=ha.2.2.1 (by omega)
  rw[w_int (3+a.1) (by omega) (by omega),w_int (3+a.1-2) (by omega) (by omega)]
  refine Tot.bind (pick_tot s a.2 _ hs (by omega) (by omega) (by omega)) (fun b hb=>?_)
  have:=hb.2.2.1 (by omega)
  rw[w_int (3+b.1) (by omega) (by omega)]
  exact(ring_l0 s hs (3+b.1) (by omega) (by omega) 30 0 b.2 _ [] (by omega) (by omega) ⟨by omega,by omega,by simp⟩ (by omega) (by omega)).mono (fun r hr=>⟨hr.1,hr.2.1,by have:=hr.2.2;omega⟩)
theorem upTo_len(N:Nat):(upTo N).length=N:=by simp[upTo]
theorem upTo_get(N m:Nat)(h:m<N):(upTo N).getD m 0=(m:Int):=by
  rw[getD_get _ _ _ (by rw[upTo_len];exact h)]
  simp[upTo]
def nexts(n:Int)(ts:List S57)(a:Int):List Int:=(upTo n.toNat).filter (fun b=>decide (tieP a b∈ts))
theorem mem_nexts{n:Int}{ts:List S57}{a b:Int}:b∈nexts n ts a↔(0≤b∧b<n)∧tieP a b∈ts:=by
  unfold nexts
  rw[List.mem_filter,mem_upTo,decide_eq_true_iff]
  constructor
  · rintro⟨h1,h2⟩
    exact⟨by omega,h2⟩
  · rintro⟨h1,h2⟩
    exact⟨by omega,h2⟩
theorem nexts_len(n:Int)(ts:List S57)(a:Int):(nexts n ts a).length≤n.toNat:=by
  unfold nexts
  refine Nat.le_trans (List.length_filter_le _ _) ?_
  rw[upTo_len]
  exact Nat.le_refl _
theorem next_loop(n:Int)(ts:List S57)(a:Int)(hn:n<1099511627776)(hl:ts.length<1099511627776): ∀d m (acc:List Int),n.toNat-m=d→m≤n.toNat→acc.length≤m→
    Tot (fun k=>spec_l2Next.l0 k a acc (m:Int) n ts) (fun r=>r=acc++((upTo n.toNat).drop m).filter (fun b=>decide (tieP a b∈ts))):=by
  intro d
  induction d with
  | zero=>
    intro m acc hd hm ha
    refine Tot.step (fun k=>by rw[spec_l2Next.l0]) (Tot.neg (by omega) (Tot.ret ?_))
    rw[List.drop_eq_nil_of_le (by rw[upTo_len];omega)]
    simp
  | succ d ih=>
    intro m acc hd hm ha
    refine Tot.step (fun k=>by rw[spec_l2Next.l0]) (Tot.pos (by omega) ?_)
    rw[w_suc m (by omega),drop_cons 0 (upTo n.toNat) m (by rw[upTo_len];omega),upTo_get _ _ (by omega)]
    refine Tot.bind (tieHas_tot n ts a (m:Int) (by omega)) (fun b hb=>Tot.ite (fun h=>Tot.pos (by omega) ?_) (fun h=>?_))
    · refine(ih (m+1) (acc++[(m:Int)]) (by omega) (by omega) (by rw[List.length_append,List.length_singleton];omega)).mono (fun r hr=>?_)
      rw[hr,List.filter_cons,if_pos (show(fun b=>decide (tieP a b∈ts)) (m:Int)=true from decide_eq_true (hb.mp h)),List.append_assoc,List.singleton_append]
    · refine(ih (m+1) acc (by omega) (by omega) (by omega)).mono (fun r hr=>?_)
      rw[hr,List.filter_cons,if_neg (show¬(fun b=>decide (tieP a b∈ts)) (m:Int)=true from fun h2=>h (hb.mpr (of_decide_eq_true h2)))]
theorem next_tot(n:Int)(ts:List S57)(a:Int)(hn:n<1099511627776)(hl:ts.length<1099511627776):Tot (fun k=>spec_l2Next.f k n ts a) (fun r=>r=nexts n ts a):=
  (Tot.unf (fun k=>by rw[spec_l2Next.f];rfl) (next_loop n ts a hn hl _ 0 [] rfl (by omega) (by simp))).mono (fun r hr=>by rw[hr];rfl)
theorem alone_tot(n:Int)(ts:List S57)(a:Int)(hn:n<1099511627776)(hl:ts.length<1099511627776):Tot (fun k=>spec_l12Alone.f k n ts a) (fun b=>b=true↔nexts n ts a=[]):=by
  refine Tot.unf (fun k=>by rw[spec_l12Alone.f]) (Tot.bind (next_tot n ts a hn hl) (fun r hr=>Tot.ret ?_))
  rw[hr,beq_iff_eq]
  exact⟨fun h=>List.eq_nil_of_length_eq_zero (by omega),fun h=>by rw[h];rfl⟩
theorem tieP_same(t:S57)(h:t.f0≤t.f1):tieP t.f0 t.f1=t:=by
  unfold tieP
  split
  · rfl
  · have:t.f0=t.f1:=by omega
    cases t
    simp_all
theorem tieP_ord(a b:Int):(tieP a b).f0≤(tieP a b).f1:=by
  unfold tieP
  split<;>simp only<;>omega
def less(ts:List S57)(t:S57):List S57:=ts.filter (fun x=>decide (x≠t))
theorem cut_loop(n:Int)(ts:List S57)(a b:Int)(hl:ts.length<1099511627776): ∀d m (acc:List S57),ts.length-m=d→m≤ts.length→acc.length≤m→
    Tot (fun k=>spec_NetCut.l0 k a b (m:Int) n ts n acc) (fun r=>r=(n,acc++less (ts.drop m) (tieP a b),true)):=by
  intro d
  induction d with
  | zero=>
    intro m acc hd hm ha
    refine Tot.step (fun k=>by rw[spec_NetCut.l0]) (Tot.neg (by omega) (Tot.ret ?_))
    rw[List.drop_eq_nil_of_le (by omega)]
    simp[less]
  | succ d ih=>
    intro m acc hd hm ha
    refine Tot.step (fun k=>by rw[spec_NetCut.l0]) (Tot.pos (by omega) (Tot.pos (by omega) ?_))
    rw[l1Tie_eq,rdT_nat,w_suc m (by omega),drop_cons z57 ts m (by omega)]
    refine Tot.some_ ?_
    have hcond:((!((ts.getD m z57).f0==(tieP a b).f0)||(!((ts.getD m z57).f1==(tieP a b).f1)))=true)↔ts.getD m z57≠tieP a b:=by
      rw[←Bool.not_and,Bool.not_eq_true',←Bool.not_eq_true]
      exact not_congr (same_tie _ _)
    refine Tot.ite (fun h=>Tot.pos (by omega) ?_) (fun h=>?_)
    · refine(ih (m+1) (acc++[ts.getD m z57]) (by omega) (by omega) (by rw[List.length_append,List.length_singleton];omega)).mono (fun r hr=>?_)
      rw[hr,less,less,List.filter_cons,if_pos (show(fun x=>decide (x≠tieP a b)) (ts.getD m z57)=true from decide_eq_true (hcond.mp h)),List.append_assoc,List.singleton_append]
    · refine(ih (m+1) acc (by omega) (by omega) (by omega)).mono (fun r hr=>?_)
      rw[hr,less,less,List.filter_cons,if_neg (show¬(fun x=>decide (x≠tieP a b)) (ts.getD m z57)=true from fun h2=>h (hcond.mpr (of_decide_eq_true h2)))]
theorem cut_tot(n:Int)(ts:List S57)(a b:Int):Tot (fun k=>spec_NetCut.f k n ts a b) (fun r=>(NetOkP n ts∧tieP a b∈ts→r=(n,less ts (tieP a b),true))∧(¬(NetOkP n ts∧tieP a b∈ts)→r=(0,[],false))):=by
  refine Tot.unf (fun k=>by rw[spec_NetCut.f]) (Tot.bind (netHas_tot n ts a b) (fun c hc=>Tot.ite (fun h=>?_) (fun h=>Tot.ret ?_)))
  · have hh:=hc.mp h
    refine(cut_loop n ts a b (by have:=netOk_len hh.1;omega) _ 0 [] rfl (by omega) (by simp)).mono (fun r hr=>⟨fun _=>hr,fun h2=>absurd hh h2⟩)
  · exact⟨fun h2=>absurd (hc.mpr h2) h,fun _=>rfl⟩
def cntF:List Bool→Nat
  |[]=>0
  |b::r=>(if b=true then 0 else 1)+cntF r
theorem cntF_set: ∀(xs:List Bool) (i:Nat),i<xs.length→xs.getD i false≠true→cntF (xs.set i true)+1=cntF xs
  |[],i,h,_=>absurd h (by simp)
  | b::r,0,_,h=>by
    rw[List.set_cons_zero,cntF,cntF,if_pos rfl,if_neg (by simpa using h)]
    omega
  | b::r,i+1,hi,h=>by
    have:=cntF_set r i (by simpa using hi) (by simpa using h)
    rw[List.set_cons_succ,cntF,cntF]
    omega
theorem cntF_le: ∀xs:List Bool,cntF xs≤xs.length
  |[]=>Nat.le_refl _
  | b::r=>by
    have:=cntF_le r
    rw[cntF,List.length_cons]
    split<;>omega
theorem set_true(xs:List Bool)(i j:Nat)(h:xs.getD j false=true):(xs.set i true).getD j false=true:=by
  have hj:j<xs.length:=by
    refine Classical.byContradiction (fun h2=>?_)
    rw[List.getD_eq_getElem?_getD,List.getElem?_eq_none (by omega)]at h
    cases h
  rw[getD_get _ _ _ (by rw[List.length_set];exact hj)]
  by_cases e:i=j
  · subst e
    rw[List.getElem_set_self]
  · rw[List.getElem_set_ne e,←getD_get xs j false hj]
    exact h
theorem set_self(xs:List Bool)(i:Nat)(h:i<xs.length):(xs.set i true).getD i false=true:=by
  rw[getD_get _ _ _ (by rw[List.length_set];exact h),List.getElem_set_self]
theorem reach_loop(n:Int)(ts:List S57)(a:Nat)(h0:0≤n)(hn:n<1048576)(hl:ts.length<1099511627776): ∀M (x5:List Bool) (q:List Int),2*cntF x5+q.length≤M→M<1099511627776→x5.length=n.toNat→x5.getD a false=true→
    Tot (fun k=>spec_WayReach.l0 k x5 q n ts) (fun r=>r.length=n.toNat∧r.getD a false=true):=by
  intro M
  induction M with
  | zero=>
    intro x5 q hM hB h5 ha
    exact Tot.step (fun k=>by rw[spec_WayReach.l0]) (Tot.neg (by omega) (Tot.ret ⟨h5,ha⟩))
  | succ M ih=>
    intro x5 q hM hB h5 ha
    refine Tot.step (fun k=>by rw[spec_WayReach.l0]) (Tot.ite (fun h=>Tot.pos (by omega) ?_) (fun h=>Tot.ret ⟨h5,ha⟩))
    refine Tot.bind (next_tot n ts _ (by omega) hl) (fun xs hxs=>Tot.pos (by omega) ?_)
    have hin: ∀d j (y5:List Bool) (p:List Int),xs.length-j=d→j≤xs.length→2*cntF y5+p.length≤M→y5.length=n.toNat→y5.getD a false=true→
        Tot (fun k=>spec_WayReach.l1 k y5 p xs (j:Int) n ts) (fun r=>r.length=n.toNat∧r.getD a false=true):=by
      intro d
      induction d with
      | zero=>
        intro j y5 p hd hj hm hy hya
        exact Tot.step (fun k=>by rw[spec_WayReach.l1]) (Tot.neg (by omega) (ih y5 p hm (by omega) hy hya))
      | succ d ihd=>
        intro j y5 p hd hj hm hy hya
        have hlx:=nexts_len n ts (rd q 0)
        rw[←hxs]at hlx
        have hv:xs.getD j 0∈nexts n ts (rd q 0):=by
          rw[←hxs]
          exact(mem_get 0 xs _).mpr ⟨j,by omega,rfl⟩
        have hv2:=(mem_nexts.mp hv).1
        refine Tot.step (fun k=>by rw[spec_WayReach.l1]) (Tot.pos (by omega) (Tot.pos (by omega) ?_))
        rw[rd_nat,w_suc j (by omega)]
        refine Tot.pos hv2.1 (Tot.pos (by omega) (Tot.ite (fun h2=>ihd (j+1) y5 p (by omega) (by omega) hm hy hya) (fun h2=>Tot.pos (by omega) ?_)))
        have hc:=cntF_set y5 (xs.getD j 0).toNat (by omega) h2
        exact ihd (j+1) _ _ (by omega) (by omega) (by rw[List.length_append,List.length_singleton];omega) (by rw[List.length_set];exact hy) (set_true _ _ _ hya)
    refine hin _ 0 x5 _ rfl (by omega) ?_ h5 ha
    rw[List.length_drop]
    omega
theorem reach_tot(n:Int)(ts:List S57)(a:Int):Tot (fun k=>spec_WayReach.f k n ts a) (fun r=>NetOkP n ts∧0≤a∧a<n→r.length=n.toNat∧r.getD a.toNat false=true):=by
  refine Tot.unf (fun k=>by rw[spec_WayReach.f]) (Tot.bind (l1Knot_tot n ts a) (fun c hc=>Tot.ite (fun h=>?_) (fun h=>Tot.ret (fun h2=>absurd (hc.mpr h2) h))))
  have hh:=hc.mp h
  have hn0:=hh.1.1
  have hn8:=hh.1.2.1
  have hlen:(List.replicate n.toNat false).length=n.toNat:=List.length_replicate
  refine Tot.pos hn0 (Tot.pos (by omega) (Tot.some_ (Tot.pos hh.2.1 (Tot.pos (by rw[hlen];omega) ?_))))
  have hle:=cntF_le ((List.replicate n.toNat false).set a.toNat true)
  rw[List.length_set,hlen]at hle
  exact(reach_loop n ts a.toNat hn0 (by omega) (by have:=netOk_len hh.1;omega) 100 _ _ (by rw[List.length_singleton];omega) (by omega) (by rw[List.length_set,hlen]) (set_self _ _ (by rw[hlen];omega))).mono (fun r hr _=>hr)
theorem parts_loop(n:Int)(ts:List S57)(hok:NetOkP n ts): ∀d m (acc:List Int),n.toNat-m=d→m≤n.toNat→acc.length≤m→Tot (fun k=>spec_WayParts.l0 k acc (m:Int) n ts) (fun r=>r.length≤8):=by
  intro d
  have hn0:=hok.1
  have hn8:=hok.2.1
  induction d with
  | zero=>
    intro m acc hd hm ha
    exact Tot.step (fun k=>by rw[spec_WayParts.l0]) (Tot.neg (by omega) (Tot.ret (by omega)))
  | succ d ih=>
    intro m acc hd hm ha
    refine Tot.step (fun k=>by rw[spec_WayParts.l0]) (Tot.pos (by omega) (Tot.bind (reach_tot n ts (m:Int)) (fun r hr=>?_)))
    have hr:=hr ⟨hok,by omega,by omega⟩
    rw[show((m:Int)).toNat=m by omega]at hr
    have hin: ∀e j,m-j=e→j≤m→Tot (fun k=>spec_WayParts.l1 k acc (m:Int) r (j:Int) n ts) (fun r=>r.length≤8):=by
      intro e
      induction e with
      | zero=>
        intro j he hj
        obtain rfl:j=m:=by omega
        refine Tot.step (fun k=>by rw[spec_WayParts.l1]) (Tot.pos (by omega) (Tot.pos (by omega) ?_))
        rw[rdB_nat,w_suc j (by omega)]
        refine Tot.pos hr.2 (Tot.pos (by omega) (ih (j+1) _ (by omega) (by omega) (by rw[List.length_append,List.length_singleton];omega)))
      | succ e ihe=>
        intro j he hj
        refine Tot.step (fun k=>by rw[spec_WayParts.l1]) (Tot.pos (by omega) (Tot.pos (by omega) ?_))
        rw[w_suc m (by omega),w_suc j (by omega)]
        refine Tot.ite (fun h=>Tot.pos (by omega) (ih (m+1) _ (by omega) (by omega) (by rw[List.length_append,List.length_singleton];omega))) (fun h=>ihe (j+1) (by omega) (by omega))
    exact hin _ 0 rfl (by omega)
theorem count_loop(xs:List Int)(hl:xs.length≤100): ∀d m (c:Int),xs.length-m=d→m≤xs.length→Tot (fun k=>spec_WayCount.l0 k xs c (m:Int)) (fun _=>True):=by
  intro d
  induction d with
  | zero=>
    intro m c hd hm
    exact Tot.step (fun k=>by rw[spec_WayCount.l0]) (Tot.neg (by omega) (Tot.ret trivial))
  | succ d ih=>
    intro m c hd hm
    refine Tot.step (fun k=>by rw[spec_WayCount.l0]) (Tot.pos (by omega) (Tot.pos (by omega) ?_))
    rw[w_suc m (by omega)]
    exact Tot.ite (fun h=>ih (m+1) _ (by omega) (by omega)) (fun h=>ih (m+1) _ (by omega) (by omega))
theorem count_tot(n:Int)(ts:List S57):Tot (fun k=>spec_WayCount.f k n ts) (fun _=>True):=by
  refine Tot.unf (fun k=>by rw[spec_WayCount.f]) (Tot.bind (netOk_tot n ts) (fun b hb=>Tot.ite (fun h=>?_) (fun h=>Tot.ret trivial)))
  refine Tot.bind (Q:=fun r=>r.length≤8) ?_ (fun r hr=>count_loop r (by omega) _ 0 0 rfl (by omega))
  refine Tot.unf (fun k=>by rw[spec_WayParts.f]) ?_
  refine Tot.some_ ?_
  refine Tot.bind (netOk_tot n ts) (fun b2 hb2=>Tot.ite (fun h2=>?_) (fun h2=>Tot.ret (by simp)))
  exact parts_loop n ts (hb.mp h) _ 0 [] rfl (by omega) (by simp)
theorem bridgeIs_tot(n:Int)(ts:List S57)(a b:Int):Tot (fun k=>spec_BridgeIs.f k n ts a b) (fun _=>True):=by
  refine Tot.unf (fun k=>by rw[spec_BridgeIs.f]) (Tot.bind (cut_tot n ts a b) (fun c _=>Tot.ite (fun _=>?_) (fun _=>Tot.ret trivial)))
  exact Tot.bind (count_tot _ _) (fun _ _=>Tot.bind (count_tot _ _) (fun _ _=>Tot.ret trivial))
theorem bridges_loop(n:Int)(ts:List S57)(hl:ts.length≤64): ∀d m (acc:List S57),ts.length-m=d→m≤ts.length→acc.length≤m→Tot (fun k=>spec_BridgeList.l0 k acc (m:Int) n ts) (fun _=>True):=by
  intro d
  induction d with
  | zero=>
    intro m acc hd hm ha
    exact Tot.step (fun k=>by rw[spec_BridgeList.l0]) (Tot.neg (by omega) (Tot.ret trivial))
  | succ d ih=>
    intro m acc hd hm ha
    refine Tot.step (fun k=>by rw[spec_BridgeList.l0]) (Tot.pos (by omega) (Tot.pos (by omega) ?_))
    rw[w_suc m (by omega)]
    refine Tot.bind (bridgeIs_tot _ _ _ _) (fun b _=>Tot.ite (fun h=>Tot.pos (by omega) (ih (m+1) _ (by omega) (by omega) (by rw[List.length_append,List.length_singleton];omega))) (fun h=>ih (m+1) _ (by omega) (by omega) (by omega)))
theorem bridges_tot(n:Int)(ts:List S57):Tot (fun k=>spec_BridgeList.f k n ts) (fun _=>True):=by
  refine Tot.unf (fun k=>by rw[spec_BridgeList.f]) ?_
  refine Tot.some_ ?_
  refine Tot.bind (netOk_tot n ts) (fun b hb=>Tot.ite (fun h=>?_) (fun h=>Tot.ret trivial))
  exact bridges_loop n ts (netOk_len (hb.mp h)) _ 0 [] rfl (by omega) (by simp)
theorem without_loop(n:Int)(ts:List S57)(a:Int)(hl:ts.length≤100): ∀d m (acc:List S57),ts.length-m=d→m≤ts.length→acc.length≤m→
    Tot (fun k=>spec_NetWithout.l0 k a (m:Int) n ts n acc) (fun r=>r.1=n∧r.2.length≤ts.length):=by
  intro d
  induction d with
  | zero=>
    intro m acc hd hm ha
    exact Tot.step (fun k=>by rw[spec_NetWithout.l0]) (Tot.neg (by omega) (Tot.ret ⟨rfl,by show acc.length≤_;omega⟩))
  | succ d ih=>
    intro m acc hd hm ha
    refine Tot.step (fun k=>by rw[spec_NetWithout.l0]) (Tot.pos (by omega) (Tot.pos (by omega) ?_))
    rw[w_suc m (by omega)]
    refine Tot.ite (fun h=>ih (m+1) acc (by omega) (by omega) (by omega)) (fun h=>Tot.ite (fun h=>ih (m+1) acc (by omega) (by omega) (by omega)) (fun h2=>Tot.pos (by omega) ?_))
    exact ih (m+1) _ (by omega) (by omega) (by rw[List.length_append,List.length_singleton];omega)
theorem without_tot(n:Int)(ts:List S57)(a:Int):Tot (fun k=>spec_NetWithout.f k n ts a) (fun _=>True):=by
  refine Tot.unf (fun k=>by rw[spec_NetWithout.f]) (Tot.bind (l1Knot_tot n ts a) (fun c hc=>Tot.ite (fun h=>?_) (fun h=>Tot.ret trivial)))
  exact(without_loop n ts a (by have:=netOk_len (hc.mp h).1;omega) _ 0 [] rfl (by omega) (by simp)).mono (fun _ _=>trivial)
def cntN:List Int→Nat
  |[]=>0
  |b::r=>(if b<0 then 1 else 0)+cntN r
theorem cntN_set: ∀(xs:List Int) (i:Nat) (v:Int),i<xs.length→xs.getD i 0<0→0≤v→cntN (xs.set i v)+1=cntN xs
  |[],i,v,h,_,_=>absurd h (by simp)
  | b::r,0,v,_,h,h0=>by
    rw[List.set_cons_zero,cntN,cntN,if_neg (by omega),if_pos (by simpa using h)]
    omega
  | b::r,i+1,v,hi,h,h0=>by
    have:=cntN_set r i v (by simpa using hi) (by simpa using h) h0
    rw[List.set_cons_succ,cntN,cntN]
    omega
theorem setD_self(xs:List Int)(i:Nat)(v:Int)(h:i<xs.length):(xs.set i v).getD i 0=v:=by
  rw[getD_get _ _ _ (by rw[List.length_set];exact h),List.getElem_set_self]
theorem setD_ne(xs:List Int)(i j:Nat)(v:Int)(h:i≠j):(xs.set i v).getD j 0=xs.getD j 0:=by
  rw[List.getD_eq_getElem?_getD,List.getD_eq_getElem?_getD,List.getElem?_set_ne h]
def Far(n:Int)(ts:List S57)(s:Nat)(far:List Int):Prop:=
  far.length=n.toNat∧far.getD s 0=0∧(∀v,v<far.length→far.getD v 0+cntN far≤far.length)∧
  ∀v,v<far.length→0≤far.getD v 0→v=s∨(1≤far.getD v 0∧ ∃u,u<far.length∧tieP (v:Int) (u:Int)∈ts∧far.getD u 0=far.getD v 0-1)
def Que(far q:List Int):Prop:= ∀x∈q,0≤x∧x<far.length∧0≤far.getD x.toNat 0
theorem far_mark{n:Int}{ts:List S57}{s:Nat}{far:List Int}(h:Far n ts s far)(x v:Nat)(hx:x<far.length)(hv:v<far.length)(hx0:0≤far.getD x 0)(hv0:far.getD v 0<0)(ht:tieP (v:Int) (x:Int)∈ts):
    Far n ts s (far.set v (far.getD x 0+1)):=by
  obtain⟨h1,h2,h3,h4⟩:=h
  have hc:=cntN_set far v (far.getD x 0+1) hv hv0 (by omega)
  have hxv:v≠x:=fun e=>by rw[e]at hv0;omega
  have hvs:v≠s:=fun e=>by rw[e]at hv0;omega
  refine⟨by rw[List.length_set];exact h1,by rw[setD_ne _ _ _ _ hvs];exact h2,fun w hw=>?_,fun w hw hw0=>?_⟩
  · rw[List.length_set]at hw⊢
    by_cases e:v=w
    · subst e
      rw[setD_self _ _ _ hv]
      have:=h3 x hx
      omega
    · rw[setD_ne _ _ _ _ e]
      have:=h3 w hw
      omega
  · rw[List.length_set]at hw⊢
    by_cases e:v=w
    · subst e
      rw[setD_self _ _ _ hv]
      exact .inr ⟨by omega,x,hx,ht,by rw[setD_ne _ _ _ _ hxv];omega⟩
    · rw[setD_ne _ _ _ _ e]at hw0⊢
      rcases h4 w hw hw0 with h5|⟨h5,u,hu,hut,huf⟩
      · exact .inl h5
      · refine .inr ⟨h5,u,hu,hut,?_⟩
        have:v≠u:=fun e2=>by rw[e2]at hv0;omega
        rw[setD_ne _ _ _ _ this]
        exact huf
theorem que_mark{far q:List Int}(h:Que far q)(v:Nat)(y:Int)(hy:0≤y)(hv:v<far.length):Que (far.set v y) (q++[(v:Int)]):=by
  intro x hx
  rw[List.length_set]
  rw[List.mem_append,List.mem_singleton]at hx
  have hcase: ∀w:Nat,0≤far.getD w 0→0≤(far.set v y).getD w 0:=by
    intro w hw
    by_cases e:v=w
    · subst e
      rw[setD_self _ _ _ hv]
      exact hy
    · rw[setD_ne _ _ _ _ e]
      exact hw
  rcases hx with hx|rfl
  · have:=h x hx
    exact⟨this.1,this.2.1,hcase _ this.2.2⟩
  · refine⟨by omega,by omega,?_⟩
    rw[show((v:Int)).toNat=v by omega,setD_self _ _ _ hv]
    exact hy
theorem far_loop(n:Int)(ts:List S57)(s:Nat)(h0:0≤n)(hn:n<1048576)(hl:ts.length<1099511627776): ∀M (far q:List Int),2*cntN far+q.length≤M→M<1099511627776→Far n ts s far→Que far q→
    Tot (fun k=>spec_l2Far.l1 k far q n ts) (fun r=>Far n ts s r):=by
  intro M
  induction M with
  | zero=>
    intro far q hM hB hf hq
    exact Tot.step (fun k=>by rw[spec_l2Far.l1]) (Tot.neg (by omega) (Tot.ret hf))
  | succ M ih=>
    intro far q hM hB hf hq
    refine Tot.step (fun k=>by rw[spec_l2Far.l1]) (Tot.ite (fun h=>Tot.pos (by omega) ?_) (fun h=>Tot.ret hf))
    have hx:=hq (q.getD 0 0) ((mem_get 0 q _).mpr ⟨0,by omega,rfl⟩)
    rw[show rd q 0=q.getD 0 0 from rfl]
    generalize hxx:q.getD 0 0=x at*
    refine Tot.bind (next_tot n ts x (by omega) hl) (fun xs hxs=>Tot.pos (by omega) ?_)
    have hlx:=nexts_len n ts x
    rw[←hxs]at hlx
    have hin: ∀d j (far p:List Int),xs.length-j=d→j≤xs.length→2*cntN far+p.length≤M→Far n ts s far→Que far p→x<far.length→0≤far.getD x.toNat 0→
        Tot (fun k=>spec_l2Far.l2 k far p x xs (j:Int) n ts) (fun r=>Far n ts s r):=by
      intro d
      induction d with
      | zero=>
        intro j far p hd hj hm hf hp _ _
        exact Tot.step (fun k=>by rw[spec_l2Far.l2]) (Tot.neg (by omega) (ih far p hm (by omega) hf hp))
      | succ d ihd=>
        intro j far p hd hj hm hf hp hxl hx0
        have hv:xs.getD j 0∈nexts n ts x:=by
          rw[←hxs]
          exact(mem_get 0 xs _).mpr ⟨j,by omega,rfl⟩
        have hv2:=mem_nexts.mp hv
        have hfl:=hf.1
        refine Tot.step (fun k=>by rw[spec_l2Far.l2]) (Tot.pos (by omega) (Tot.pos (by omega) ?_))
        rw[rd_nat,w_suc j (by omega)]
        generalize xs.getD j 0=v at hv2⊢
        refine Tot.pos hv2.1.1 (Tot.pos (by omega) (Tot.ite (fun h2=>Tot.pos hx.1 (Tot.pos hxl (Tot.pos (by omega) ?_))) (fun h2=>ihd (j+1) far p (by omega) (by omega) hm hf hp hxl hx0)))
        have hb:=hf.2.2.1 x.toNat (by omega)
        have hv0:far.getD v.toNat 0<0:=h2
        have e1:rd far x=far.getD x.toNat 0:=rfl
        rw[e1,w_int _ (by omega) (by omega)]
        have hc:=cntN_set far v.toNat (far.getD x.toNat 0+1) (by omega) hv0 (by omega)
        have hq2:=que_mark hp v.toNat (far.getD x.toNat 0+1) (by omega) (by omega)
        rw[show((v.toNat:Nat):Int)=v by omega]at hq2
        refine ihd (j+1) _ _ (by omega) (by omega) (by rw[List.length_append,List.length_singleton];omega) (far_mark hf x.toNat v.toNat (by omega) (by omega) hx0 hv0 ?_) hq2 (by rw[List.length_set];exact hxl) ?_
        · rw[show((v.toNat:Nat):Int)=v by omega,show((x.toNat:Nat):Int)=x by omega,tieP_comm]
          exact hv2.2
        · by_cases e:v.toNat=x.toNat
          · rw[e,setD_self _ _ _ (by omega)]
            omega
          · rw[setD_ne _ _ _ _ e]
            exact hx0
    refine hin _ 0 far _ rfl (by omega) (by rw[List.length_drop];omega) hf (fun y hy=>hq y (List.mem_of_mem_drop hy)) hx.2.1 hx.2.2
theorem cntN_rep: ∀N,cntN (List.replicate N (-1))=N
  |0=>rfl
  | N+1=>by
    rw[List.replicate_succ,cntN,cntN_rep N,if_pos (by omega)]
    omega
theorem far_tot(n:Int)(ts:List S57)(a:Int)(hn:n<1048576)(hl:ts.length<1099511627776)(ha:0≤a)(ha2:a<n):Tot (fun k=>spec_l2Far.f k n ts a) (fun r=>Far n ts a.toNat r):=by
  refine Tot.unf (fun k=>by rw[spec_l2Far.f]) ?_
  have hloop: ∀d m,n.toNat-m=d→m≤n.toNat→Tot (fun k=>spec_l2Far.l0 k a (List.replicate m (-1)) (m:Int) n ts) (fun r=>Far n ts a.toNat r):=by
    intro d
    induction d with
    | zero=>
      intro m hd hm
      obtain rfl:m=n.toNat:=by omega
      have hlen:(List.replicate n.toNat (-1:Int)).length=n.toNat:=List.length_replicate
      have hg: ∀v,v<n.toNat→(List.replicate n.toNat (-1:Int)).getD v 0= -1:=fun v hv=>by rw[getD_get _ _ _ (by rw[hlen];exact hv),List.getElem_replicate]
      refine Tot.step (fun k=>by rw[spec_l2Far.l0]) (Tot.neg (by omega) (Tot.pos ha (Tot.pos (by rw[hlen];omega) ?_)))
      have hc:=cntN_set (List.replicate n.toNat (-1)) a.toNat 0 (by rw[hlen];omega) (by rw[hg _ (by omega)];omega) (by omega)
      rw[cntN_rep]at hc
      refine far_loop n ts a.toNat (by omega) hn hl (2*n.toNat+1) _ _ (by rw[List.length_singleton];omega) (by omega) ⟨by rw[List.length_set,hlen],setD_self _ _ _ (by rw[hlen];omega),fun v hv=>?_,fun v hv hv0=>?_⟩ (fun x hx=>?_)
      · rw[List.length_set,hlen]at hv⊢
        by_cases e:a.toNat=v
        · rw[←e,setD_self _ _ _ (by rw[hlen];omega)]
          omega
        · rw[setD_ne _ _ _ _ e,hg v hv]
          omega
      · rw[List.length_set,hlen]at hv
        by_cases e:a.toNat=v
        · exact .inl e.symm
        · rw[setD_ne _ _ _ _ e,hg v hv]at hv0
          omega
      · rw[List.mem_singleton]at hx
        subst hx
        refine⟨ha,by rw[List.length_set,hlen];omega,?_⟩
        rw[setD_self _ _ _ (by rw[hlen];omega)]
        omega
    | succ d ih=>
      intro m hd hm
      refine Tot.step (fun k=>by rw[spec_l2Far.l0]) (Tot.pos (by omega) (Tot.pos (by rw[List.length_replicate];omega) ?_))
      rw[w_suc m (by omega),←List.replicate_succ']
      exact ih (m+1) (by omega) (by omega)
  exact hloop _ 0 rfl (by omega)
def WayP(a:Int)(r:List Int×Bool):Prop:=r.2=true→r.1.length≤20∧0<r.1.length∧r.1.getD 0 0=a
theorem way_loop(n:Int)(ts:List S57)(a b:Int)(h8:n≤8)(hl:ts.length≤64)(far:List Int)(hf:Far n ts b.toNat far)(hb:0≤b): ∀(D:Nat) (x:Int) (w:List Int),0≤x→x<n→0≤far.getD x.toNat 0→far.getD x.toNat 0≤(D:Int)→w.length+D≤20→0<w.length→w.getD 0 0=a→
    Tot (fun k=>spec_WayFind.l0 k b w far x n ts) (WayP a):=by
  intro D
  have hfl:=hf.1
  induction D with
  | zero=>
    intro x w hx0 hx1 hfx hD hw hw0 hwa
    refine Tot.step (fun k=>by rw[spec_WayFind.l0]) (Tot.pos ?_ (Tot.ret (fun _=>⟨by show w.length≤20;omega,hw0,hwa⟩)))
    rcases hf.2.2.2 x.toNat (by omega) hfx with h|h
    · omega
    · omega
  | succ D ih=>
    intro x w hx0 hx1 hfx hD hw hw0 hwa
    refine Tot.step (fun k=>by rw[spec_WayFind.l0]) (Tot.ite (fun h=>Tot.ret (fun _=>⟨by show w.length≤20;omega,hw0,hwa⟩)) (fun h=>?_))
    rcases hf.2.2.2 x.toNat (by omega) hfx with h2|⟨h2,u,hu,hut,huf⟩
    · omega
    refine Tot.bind (next_tot n ts x (by omega) (by omega)) (fun xs hxs=>?_)
    have hlx:=nexts_len n ts x
    rw[←hxs]at hlx
    have hum:(u:Int)∈xs:=by
      rw[hxs]
      refine mem_nexts.mpr ⟨by omega,?_⟩
      rw[show((x.toNat:Nat):Int)=x by omega]at hut
      exact hut
    have hin: ∀d j,xs.length-j=d→j≤xs.length→(u:Int)∈xs.drop j→Tot (fun k=>spec_WayFind.l1 k b w far x xs (j:Int) n ts) (WayP a):=by
      intro d
      induction d with
      | zero=>
        intro j hd hj hm
        rw[List.drop_eq_nil_of_le (by omega)]at hm
        cases hm
      | succ d ihd=>
        intro j hd hj hm
        have hv:xs.getD j 0∈nexts n ts x:=by
          rw[←hxs]
          exact(mem_get 0 xs _).mpr ⟨j,by omega,rfl⟩
        have hv2:=mem_nexts.mp hv
        rw[drop_cons 0 xs j (by omega),List.mem_cons]at hm
        refine Tot.step (fun k=>by rw[spec_WayFind.l1]) (Tot.pos (by omega) (Tot.pos (by omega) ?_))
        rw[rd_nat,w_suc j (by omega)]
        generalize xs.getD j 0=v at hv2 hm⊢
        refine Tot.pos hv2.1.1 (Tot.pos (by omega) (Tot.pos hx0 (Tot.pos (by omega) ?_)))
        have hbx:=hf.2.2.1 x.toNat (by omega)
        rw[show rd far x=far.getD x.toNat 0 from rfl,show rd far v=far.getD v.toNat 0 from rfl,w_int _ (by omega) (by omega)]
        refine Tot.ite (fun h3=>Tot.pos (by omega) ?_) (fun h3=>?_)
        · refine ih v _ hv2.1.1 hv2.1.2 (by omega) (by omega) (by rw[List.length_append,List.length_singleton];omega) (by rw[List.length_append,List.length_singleton];omega) ?_
          rw[List.getD_eq_getElem?_getD,List.getElem?_append_left hw0,←List.getD_eq_getElem?_getD]
          exact hwa
        · refine ihd (j+1) (by omega) (by omega) (hm.resolve_left (fun e=>h3 ?_))
          rw[←e,show((u:Int)).toNat=u by omega]
          exact huf
    exact hin _ 0 rfl (by omega) hum
theorem wayFind_tot(n:Int)(ts:List S57)(a b:Int):Tot (fun k=>spec_WayFind.f k n ts a b) (WayP a):=by
  have hno:Tot (fun k=>spec_WayFind.j0 k a b [] true n ts) (WayP a):=Tot.step (fun k=>by rw[spec_WayFind.j0]) (Tot.pos rfl (Tot.ret (fun h=>by cases h)))
  refine Tot.unf (fun k=>by rw[spec_WayFind.f]) ?_
  refine Tot.some_ ?_
  refine Tot.bind (l1Knot_tot n ts a) (fun c hc=>Tot.ite (fun h=>?_) (fun h=>hno))
  refine Tot.bind (l1Knot_tot n ts b) (fun e he=>?_)
  cases e with
  |false=>exact hno
  | true=>
    have ha:=hc.mp h
    have hb:=he.mp rfl
    have h8:=ha.1.2.1
    have hl:=netOk_len ha.1
    refine Tot.step (fun k=>by rw[spec_WayFind.j0]) (Tot.neg (by simp) ?_)
    refine Tot.bind (far_tot n ts b (by omega) (by omega) hb.2.1 hb.2.2) (fun far hf=>?_)
    have hfl:=hf.1
    refine Tot.pos ha.2.1 (Tot.pos (by omega) (Tot.ite (fun h2=>Tot.ret (fun h=>by cases h)) (fun h2=>Tot.pos (by simp) ?_)))
    have h3:=hf.2.2.1 a.toNat (by omega)
    have h4: ¬far.getD a.toNat 0<0:=h2
    exact way_loop n ts a b h8 hl far hf hb.2.1 8 a [a] ha.2.1 ha.2.2 (by omega) (by omega) (by simp) (by simp) rfl
def FromP(ts:List S57)(r:List Int×Bool):Prop:=r.2=true→r.1.length≤21∧2≤r.1.length∧tieP (r.1.getD 0 0) (r.1.getD 1 0)∈ts
theorem from_loop(n:Int)(ts:List S57)(knots:List Int)(a f:Int)(cn:Int)(cs:List S57)(h8:n≤8)(hk:knots.length<1099511627776)(ht:tieP a f∈ts):
    ∀d m (best:List Int),n.toNat-m=d→(best.length=0∨(best.length≤20∧0<best.length∧best.getD 0 0=f))→Tot (fun k=>spec_l22From.l0 k knots a f best (m:Int) n ts cn cs) (FromP ts):=by
  intro d
  have hend: ∀(m:Nat) (best:List Int),n.toNat≤m→(best.length=0∨(best.length≤20∧0<best.length∧best.getD 0 0=f))→Tot (fun k=>spec_l22From.l0 k knots a f best (m:Int) n ts cn cs) (FromP ts):=by
    intro m best hm hb
    refine Tot.step (fun k=>by rw[spec_l22From.l0]) (Tot.neg (by omega) (Tot.ite (fun h=>Tot.ret (fun h=>by cases h)) (fun h=>?_)))
    have hb:=hb.resolve_left (by omega)
    refine Tot.some_ (Tot.pos (by rw[List.length_singleton];omega) (Tot.ret (fun _=>⟨?_,?_,?_⟩)))
    · show([a]++best).length≤21
      rw[List.length_append,List.length_singleton]
      omega
    · show 2≤([a]++best).length
      rw[List.length_append,List.length_singleton]
      omega
    · show tieP (([a]++best).getD 0 0) (([a]++best).getD 1 0)∈ts
      rw[List.singleton_append,show(a::best).getD 0 0=a from rfl,show(a::best).getD 1 0=best.getD 0 0 from rfl,hb.2.2]
      exact ht
  induction d with
  | zero=>
    intro m best hd hb
    exact hend m best (by omega) hb
  | succ d ih=>
    intro m best hd hb
    refine Tot.step (fun k=>by rw[spec_l22From.l0]) (Tot.pos (by omega) (Tot.bind (has_tot knots _ (by omega)) (fun b _=>Tot.ite (fun h=>?_) (fun h=>?_))))
    · have hin: ∀e j (xn:Int) (xs:List S57),knots.length-j=e→j≤knots.length→Tot (fun k=>spec_l22From.l1 k knots a f best (m:Int) (j:Int) n ts cn cs xn xs) (FromP ts):=by
        intro e
        induction e with
        | zero=>
          intro j xn xs he hj
          refine Tot.step (fun k=>by rw[spec_l22From.l1]) (Tot.neg (by omega) (Tot.bind (wayFind_tot xn xs f (m:Int)) (fun w hw=>?_)))
          rw[w_suc m (by omega)]
          refine Tot.ite (fun h2=>?_) (fun h2=>ih (m+1) best (by omega) hb)
          have hw2:=hw h2
          exact Tot.ite (fun h3=>ih (m+1) _ (by omega) (.inr hw2)) (fun h3=>Tot.ite (fun h4=>ih (m+1) _ (by omega) (.inr hw2)) (fun h4=>ih (m+1) best (by omega) hb))
        | succ e ihe=>
          intro j xn xs he hj
          refine Tot.step (fun k=>by rw[spec_l22From.l1]) (Tot.pos (by omega) (Tot.pos (by omega) ?_))
          rw[w_suc j (by omega)]
          exact Tot.ite (fun h2=>ihe (j+1) xn xs (by omega) (by omega)) (fun h2=>Tot.bind (without_tot xn xs _) (fun c _=>ihe (j+1) c.1 c.2 (by omega) (by omega)))
      exact hin _ 0 cn cs rfl (by omega)
    · rw[w_suc m (by omega)]
      exact ih (m+1) best (by omega) hb
theorem from_tot(n:Int)(ts:List S57)(knots:List Int)(a:Int)(h8:n≤8)(hl:ts.length≤64)(hk:knots.length<1099511627776):Tot (fun k=>spec_l22From.f k n ts knots a) (FromP ts):=by
  refine Tot.unf (fun k=>by rw[spec_l22From.f]) (Tot.bind (next_tot n ts a (by omega) (by omega)) (fun xs hxs=>Tot.ite (fun h=>Tot.ret (fun h=>by cases h)) (fun h=>Tot.pos (by omega) ?_)))
  have hm:rd xs 0∈nexts n ts a:=by
    rw[←hxs]
    exact(mem_get 0 xs _).mpr ⟨0,by omega,rfl⟩
  have ht:=(mem_nexts.mp hm).2
  refine Tot.bind (has_tot knots _ (by omega)) (fun b _=>Tot.ite (fun h2=>Tot.ret (fun _=>⟨by simp,by simp,ht⟩)) (fun h2=>?_))
  refine Tot.bind (cut_tot n ts a _) (fun c _=>from_loop n ts knots a (rd xs 0) c.1 c.2.1 h8 hk ht _ 0 [] rfl (.inl rfl))
theorem tlt_trans{a b c:S57}(h:tlt a b)(k:tlt b c):tlt a c:=by
  unfold tlt at*
  omega
theorem asc_all{n:Int}{ts:List S57}(h:NetOkP n ts): ∀d i,i+d+1<ts.length→tlt (ts.getD i z57) (ts.getD (i+d+1) z57):=by
  intro d
  induction d with
  | zero=>
    intro i hi
    have:=(h.2.2 (i+0+1) hi).2 (by omega)
    exact this
  | succ d ih=>
    intro i hi
    exact tlt_trans (ih i (by omega)) ((h.2.2 (i+(d+1)+1) hi).2 (by omega))
theorem netOk_pair{n:Int}{ts:List S57}:NetOkP n ts↔0≤n∧n≤8∧(∀t∈ts,InN n t)∧ts.Pairwise tlt:=by
  constructor
  · intro h
    refine⟨h.1,h.2.1,fun t ht=>?_,?_⟩
    · obtain⟨i,hi,rfl⟩:=(mem_get z57 ts t).mp ht
      exact(h.2.2 i hi).1
    · rw[List.pairwise_iff_getElem]
      intro i j hi hj hij
      have:=asc_all h (j-i-1) i (by omega)
      rw[show i+(j-i-1)+1=j by omega,getD_get _ _ _ hi,getD_get _ _ _ hj]at this
      exact this
  · rintro⟨h1,h2,h3,h4⟩
    rw[List.pairwise_iff_getElem]at h4
    refine⟨h1,h2,fun j hj=>⟨h3 _ ((mem_get z57 ts _).mpr ⟨j,hj,rfl⟩),fun h0=>?_⟩⟩
    have:=h4 (j-1) j (by omega) hj (by omega)
    rw[getD_get _ _ _ (by omega),getD_get _ _ _ hj]
    exact this
theorem netOk_filter{n:Int}{ts:List S57}(h:NetOkP n ts)(p:S57→Bool):NetOkP n (ts.filter p):=by
  rw[netOk_pair]at*
  exact⟨h.1,h.2.1,fun t ht=>h.2.2.1 t (List.mem_filter.mp ht).1,h.2.2.2.filter p⟩
def lessAll(ts:List S57):List S57→List S57
  |[]=>ts
  |t::r=>lessAll (less ts t) r
theorem less_none(ts:List S57)(t:S57)(h:t∉ts):less ts t=ts:=by
  unfold less
  rw[List.filter_eq_self]
  intro x hx
  exact decide_eq_true (fun e=>h (e▸hx))
theorem less_le(ts:List S57)(t:S57):(less ts t).length≤ts.length:=List.length_filter_le _ _
theorem less_lt(ts:List S57)(t:S57)(h:t∈ts):(less ts t).length<ts.length:=by
  refine Nat.lt_of_le_of_ne (less_le ts t) (fun e=>?_)
  have:=List.length_filter_eq_length_iff.mp e t h
  simp at this
theorem lessAll_le: ∀(l ts:List S57),(lessAll ts l).length≤ts.length
  |[],ts=>Nat.le_refl _
  |t::r,ts=>Nat.le_trans (lessAll_le r _) (less_le ts t)
theorem lessAll_ok{n:Int}: ∀(l ts:List S57),NetOkP n ts→NetOkP n (lessAll ts l)
  |[],ts,h=>h
  |t::r,ts,h=>lessAll_ok r _ (netOk_filter h _)
theorem less_tot(n:Int)(ts l:List S57)(hok:NetOkP n ts)(hl:l.length<1099511627776)(ho: ∀t∈l,t.f0≤t.f1):Tot (fun k=>spec_l22Less.f k n ts l) (fun r=>r=(n,lessAll ts l)):=by
  refine Tot.unf (fun k=>by rw[spec_l22Less.f]) ?_
  rw[copy_eq n ts (by have:=netOk_len hok;omega)]
  refine Tot.some_ ?_
  have hin: ∀d m (xs:List S57),l.length-m=d→m≤l.length→NetOkP n xs→Tot (fun k=>spec_l22Less.l0 k l (m:Int) n xs) (fun r=>r=(n,lessAll xs (l.drop m))):=by
    intro d
    induction d with
    | zero=>
      intro m xs hd hm hx
      refine Tot.step (fun k=>by rw[spec_l22Less.l0]) (Tot.neg (by omega) (Tot.ret ?_))
      rw[List.drop_eq_nil_of_le (by omega),lessAll]
    | succ d ih=>
      intro m xs hd hm hx
      refine Tot.step (fun k=>by rw[spec_l22Less.l0]) (Tot.pos (by omega) (Tot.pos (by omega) ?_))
      rw[rdT_nat,w_suc m (by omega),drop_cons z57 l m (by omega),lessAll]
      have ht:=tieP_same (l.getD m z57) (ho _ ((mem_get z57 l _).mpr ⟨m,by omega,rfl⟩))
      refine Tot.bind (cut_tot n xs _ _) (fun c hc=>?_)
      rw[ht]at hc
      by_cases hmem:l.getD m z57∈xs
      · have:=hc.1 ⟨hx,hmem⟩
        subst this
        exact Tot.pos rfl (ih (m+1) _ (by omega) (by omega) (netOk_filter hx _))
      · have:=hc.2 (fun h=>hmem h.2)
        subst this
        rw[less_none xs _ hmem]
        exact Tot.neg (by simp) (ih (m+1) xs (by omega) (by omega) hx)
  exact hin _ 0 ts rfl (by omega) hok
theorem tiesOf_ord: ∀(e:List Int),∀t∈tiesOf e,t.f0≤t.f1
  |[],t,h=>by cases h
  |[_],t,h=>by cases h
  | a::b::r,t,h=>by
    rw[tiesOf,List.mem_cons]at h
    rcases h with rfl|h
    · exact tieP_ord a b
    · exact tiesOf_ord (b::r) t h
def EarsP(m:Nat)(ears:List (List Int)):Prop:=ears.length≤m∧ ∀e∈ears,2≤e.length∧e.length≤21
theorem earPush(n m0:Int)(ts left:List S57)(out:List (List Int))(e:List Int)(he:e.length≤21){P:List (List Int)×Bool→Prop}:
    ∀d m (taken:List S57) (knots:List Int),e.length-m=d→m≤e.length→taken.length+(e.length-m)<100→knots.length+(e.length-m)<1099511627776→
    (∀knots',knots'.length≤knots.length+(e.length-m)→Tot (fun k=>(spec_l22Less.f k n left (taken++tiesOf (e.drop (m-1)))).bind fun bt130=>(if out.length<5864062014805 then(spec_EarOf.l0 k (out++[e]) knots' n ts bt130.1 bt130.2)else none)) P)→
    Tot (fun k=>spec_EarOf.l2 k out knots e taken (m:Int) n ts n left) P:=by
  intro d
  induction d with
  | zero=>
    intro m taken knots hd hm ht hk h
    refine Tot.step (fun k=>by rw[spec_EarOf.l2]) (Tot.neg (by omega) ?_)
    have e1:tiesOf (e.drop (m-1))=[]:=by
      have:(e.drop (m-1)).length≤1:=by rw[List.length_drop];omega
      match hx:e.drop (m-1),this with
      |[],_=>rfl
      |[_],_=>rfl
    have h:=h knots (by omega)
    rw[e1,List.append_nil]at h
    exact h
  | succ d ih=>
    intro m taken knots hd hm ht hk h
    refine Tot.step (fun k=>by rw[spec_EarOf.l2]) (Tot.pos (by omega) ?_)
    refine Tot.ite (fun h0=>?_) (fun h0=>?_)
    · rw[w_pre m (by omega) (by omega)]
      refine Tot.pos (by omega) (Tot.pos (by omega) (Tot.pos (by omega) ?_))
      rw[rd_nat,rd_nat,l1Tie_eq]
      refine Tot.some_ (Tot.pos (by omega) (Tot.some_ ?_))
      rw[drop_pre e m (by omega) (by omega),List.append_cons]at h
      rw[w_suc m (by omega)]
      refine Tot.bind (has_tot knots _ (by omega)) (fun b hb=>Tot.ite (fun h2=>?_) (fun h2=>?_))
      · exact ih (m+1) _ knots (by omega) (by omega) (by rw[List.length_append,List.length_singleton];omega) (by omega) (fun k2 hk2=>h k2 (by omega))
      · exact Tot.pos (by omega) (ih (m+1) _ _ (by omega) (by omega) (by rw[List.length_append,List.length_singleton];omega) (by rw[List.length_append,List.length_singleton];omega) (fun k2 hk2=>h k2 (by rw[List.length_append,List.length_singleton]at hk2;omega)))
    · obtain rfl:m=0:=by omega
      refine Tot.pos (by omega) ?_
      rw[rd_nat,w_suc 0 (by omega)]
      refine Tot.bind (has_tot knots _ (by omega)) (fun b hb=>Tot.ite (fun h2=>?_) (fun h2=>?_))
      · exact ih 1 _ knots (by omega) (by omega) (by omega) (by omega) (fun k2 hk2=>h k2 (by omega))
      · exact Tot.pos (by omega) (ih 1 _ _ (by omega) (by omega) (by omega) (by rw[List.length_append,List.length_singleton];omega) (fun k2 hk2=>h k2 (by rw[List.length_append,List.length_singleton]at hk2;omega)))
theorem tiesOf_head(e:List Int)(h:2≤e.length):tiesOf e=tieP (e.getD 0 0) (e.getD 1 0)::tiesOf (e.drop 1):=by
  have:=drop_pre e 1 (by omega) (by omega)
  rw[show 1-1=0 from rfl,List.drop_zero]at this
  exact this
theorem earOf_loop(n:Int)(ts:List S57)(h0:0≤n)(h8:n≤8): ∀M (out:List (List Int)) (knots:List Int) (left:List S57),left.length≤M→NetOkP n left→knots.length+22*M<1099511627776→out.length+M≤64→EarsP 64 out→
    Tot (fun k=>spec_EarOf.l0 k out knots n ts n left) (fun r=>EarsP 64 r.1):=by
  intro M
  induction M with
  | zero=>
    intro out knots left hM hok hk ho hE
    exact Tot.step (fun k=>by rw[spec_EarOf.l0]) (Tot.neg (by omega) (Tot.ret hE))
  | succ M ih=>
    intro out knots left hM hok hk ho hE
    have hl:=netOk_len hok
    refine Tot.step (fun k=>by rw[spec_EarOf.l0]) (Tot.ite (fun h=>?_) (fun h=>Tot.ret hE))
    have hj: ∀x:Int,Tot (fun k=>spec_EarOf.j3 k out knots x n ts n left) (fun r=>EarsP 64 r.1):=by
      intro x
      refine Tot.step (fun k=>by rw[spec_EarOf.j3]) (Tot.bind (from_tot n left knots x h8 hl (by omega)) (fun r hr=>Tot.ite (fun h2=>?_) (fun h2=>Tot.ret ⟨by simp,fun e he=>by cases he⟩)))
      obtain⟨hr1,hr2,hr3⟩:=hr h2
      refine earPush n 0 ts left out r.1 hr1 _ 0 [] knots rfl (by omega) (by simp;omega) (by omega) (fun knots' hk'=>?_)
      rw[List.nil_append,show 0-1=0 from rfl,List.drop_zero]
      have htl:=tiesOf_len r.1
      refine Tot.bind (less_tot n left (tiesOf r.1) hok (by omega) (tiesOf_ord r.1)) (fun c hc=>Tot.pos (by omega) ?_)
      subst hc
      have hlt:(lessAll left (tiesOf r.1)).length<left.length:=by
        rw[tiesOf_head r.1 hr2,lessAll]
        exact Nat.lt_of_le_of_lt (lessAll_le _ _) (less_lt left _ hr3)
      refine ih _ knots' (lessAll left (tiesOf r.1)) (by omega) (lessAll_ok _ _ hok) (by omega) (by rw[List.length_append,List.length_singleton];omega) ⟨by rw[List.length_append,List.length_singleton];omega,fun e he=>?_⟩
      rw[List.mem_append,List.mem_singleton]at he
      rcases he with he|rfl
      · exact hE.2 e he
      · exact⟨hr2,hr1⟩
    have hin: ∀d m,n.toNat-m=d→m≤n.toNat→Tot (fun k=>spec_EarOf.l1 k out knots (m:Int) n ts n left) (fun r=>EarsP 64 r.1):=by
      intro d
      induction d with
      | zero=>
        intro m hd hm
        exact Tot.step (fun k=>by rw[spec_EarOf.l1]) (Tot.neg (by omega) (hj _))
      | succ d ihd=>
        intro m hd hm
        refine Tot.step (fun k=>by rw[spec_EarOf.l1]) (Tot.pos (by omega) ?_)
        rw[w_suc m (by omega)]
        refine Tot.bind (has_tot knots _ (by omega)) (fun b _=>Tot.ite (fun h2=>?_) (fun h2=>ihd (m+1) (by omega) (by omega)))
        refine Tot.bind (alone_tot n left _ (by omega) (by omega)) (fun c _=>Tot.ite (fun h3=>ihd (m+1) (by omega) (by omega)) (fun h3=>hj _))
    exact hin _ 0 rfl (by omega)
theorem earOf_tot(n:Int)(ts:List S57):Tot (fun k=>spec_EarOf.f k n ts) (fun r=>EarsP 64 r.1):=by
  have hnil:EarsP 64 []:=⟨by simp,fun e he=>by cases he⟩
  have hno:Tot (fun k=>spec_EarOf.j0 k [] true n ts) (fun r=>EarsP 64 r.1):=Tot.step (fun k=>by rw[spec_EarOf.j0]) (Tot.pos rfl (Tot.ret hnil))
  refine Tot.unf (fun k=>by rw[spec_EarOf.f]) ?_
  refine Tot.some_ ?_
  refine Tot.bind (netOk_tot n ts) (fun b hb=>Tot.ite (fun h=>?_) (fun h=>hno))
  have hok:=hb.mp h
  refine Tot.ite (fun h2=>hno) (fun h2=>Tot.bind (count_tot n ts) (fun c _=>Tot.ite (fun h3=>?_) (fun h3=>hno)))
  refine Tot.bind (bridges_tot n ts) (fun l _=>?_)
  have hl:=netOk_len hok
  refine Tot.step (fun k=>by rw[spec_EarOf.j0]) (Tot.ite (fun h4=>Tot.ret hnil) (fun h4=>?_))
  rw[copy_eq n ts (by omega)]
  refine Tot.some_ ?_
  exact earOf_loop n ts hok.1 hok.2.1 64 [] [0] ts hl hok (by simp) (by simp) hnil
def DrP(ts:List S57)(ears:List (List Int)):Prop:=ts.length≤67∧ears.length≤65∧ ∀e∈ears,e.length≤21
theorem sumLen_le: ∀(ears:List (List Int)) (b:Nat),(∀e∈ears,e.length≤b)→sumLen ears≤ears.length*b
  |[],b,_=>by simp[sumLen]
  | e::r,b,h=>by
    have h1:=sumLen_le r b (fun x hx=>h x (List.mem_cons_of_mem _ hx))
    have h2:=h e List.mem_cons_self
    rw[sumLen,List.length_cons,Nat.succ_mul]
    omega
theorem turn_loop(s:List Int)(p n:Int)(ts:List S57)(ears:List (List Int))(i:Nat)(hi:i<ears.length)(hd:DrP ts ears): ∀(d:Nat) (x:List Int) (j:Int),j<(d:Int)→ -1≤j→(d:Int)≤(ears.getD i []).length→x.length+d≤21→
    Tot (fun k=>spec_l71Ears.l0 k ears (i:Int) x j s p n ts) (fun r=>DrP r.2.1 r.2.2.1):=by
  have hend: ∀(x:List Int) (j:Int),j<0→x.length≤21→Tot (fun k=>spec_l71Ears.l0 k ears (i:Int) x j s p n ts) (fun r=>DrP r.2.1 r.2.2.1):=by
    intro x j hj hx
    refine Tot.step (fun k=>by rw[spec_l71Ears.l0]) (Tot.neg (by omega) (Tot.pos (by omega) (Tot.pos (by omega) (Tot.ret ⟨hd.1,?_,fun e he=>?_⟩))))
    · show(ears.set _ _).length≤65
      rw[List.length_set]
      exact hd.2.1
    · rcases List.mem_or_eq_of_mem_set he with h|h
      · exact hd.2.2 e h
      · rw[h]
        exact hx
  intro d
  induction d with
  | zero=>
    intro x j hj _ _ hx
    exact hend x j (by omega) (by omega)
  | succ d ih=>
    intro x j hj hj0 hdl hx
    by_cases h:0≤j
    · refine Tot.step (fun k=>by rw[spec_l71Ears.l0]) (Tot.pos (by omega) (Tot.pos (by omega) (Tot.pos (by omega) (Tot.pos (by omega) ?_))))
      rw[rdL_nat]
      refine Tot.pos (by omega) (Tot.pos (by omega) ?_)
      rw[w_int (j-1) (by omega) (by omega)]
      exact ih _ (j-1) (by omega) (by omega) (by omega) (by rw[List.length_append,List.length_singleton];omega)
    · exact hend x j (by omega) (by omega)
theorem ears_tot(s:List Int)(hs:Bytes s)(p:Int)(h0:0≤p)(hp:p+10000<1099511627776):Tot (fun k=>spec_l71Ears.f k s p) (fun r=>DrP r.2.1 r.2.2.1):=by
  refine Tot.unf (fun k=>by rw[spec_l71Ears.f]) ?_
  refine Tot.bind (ring_tot s hs p h0 (by omega)) (fun a ha=>?_)
  obtain⟨ha1,ha2,ha3⟩:=ha
  have hts:=ha1.2.2
  refine Tot.bind (earOf_tot a.1 a.2.1) (fun b hb=>?_)
  have hb1:=hb.1
  have hE: ∀e∈b.1,e.length≤21:=fun e he=>(hb.2 e he).2
  refine Tot.ite (fun h=>Tot.ret ⟨hts,by simp,fun e he=>?_⟩) (fun h=>?_)
  · rw[List.mem_singleton]at he
    rw[he]
    simp
  refine Tot.bind (pick_tot s a.2.2 _ hs ha2 (by omega) (by omega)) (fun c hc=>?_)
  have hc1:=hc.2.1
  have hc2:=hc.2.2.1 (by omega)
  refine Tot.bind (pick_tot s c.2 8 hs (by omega) (by omega) (by omega)) (fun d hd=>?_)
  obtain⟨i,hi⟩: ∃i:Nat,c.1=(i:Int):=⟨c.1.toNat,by omega⟩
  rw[hi]at hc1 hc2⊢
  have hmem:=(mem_get [] b.1 (b.1.getD i [])).mpr ⟨i,by omega,rfl⟩
  have hlen:=hb.2 _ hmem
  refine Tot.ite (fun h1=>?_) (fun h1=>?_)
  · refine Tot.some_ (Tot.pos hc1 (Tot.pos (by omega) ?_))
    refine Tot.some_ (Tot.pos (by rw[List.length_nil,List.length_take];omega) ?_)
    refine Tot.some_ ?_
    rw[w_suc i (by omega)]
    refine Tot.pos (by omega) (Tot.pos (by omega) ?_)
    refine Tot.some_ (Tot.pos (by rw[List.nil_append,List.length_take,List.length_drop];omega) (Tot.ret ⟨hts,?_,fun e he=>?_⟩))
    · show(([]++b.1.take _)++b.1.drop _).length≤65
      rw[List.nil_append,List.length_append,List.length_take,List.length_drop]
      omega
    · rw[List.nil_append]at he
      rcases List.mem_append.mp he with he|he
      · exact hE e (List.mem_of_mem_take he)
      · exact hE e (List.mem_of_mem_drop he)
  have hset: ∀x:List Int,x.length≤21→DrP a.2.1 (b.1.set ((i:Int)).toNat x):=by
    intro x hx
    refine⟨hts,by rw[List.length_set];omega,fun e he=>?_⟩
    rcases List.mem_or_eq_of_mem_set he with h|h
    · exact hE e h
    · rw[h]
      exact hx
  refine Tot.ite (fun h2=>?_) (fun h2=>?_)
  · refine Tot.pos hc1 (Tot.pos hc2 ?_)
    rw[rdL_nat]
    refine Tot.pos (by omega) (Tot.ret (hset _ ?_))
    rw[List.length_drop]
    omega
  refine Tot.ite (fun h3=>Tot.pos (by omega) (Tot.ret ⟨hts,?_,fun e he=>?_⟩)) (fun h3=>?_)
  · show(b.1++[_]).length≤65
    rw[List.length_append,List.length_singleton]
    omega
  · rcases List.mem_append.mp he with he|he
    · exact hE e he
    · rw[List.mem_singleton]at he
      rw[he]
      simp
  refine Tot.ite (fun h4=>Tot.pos hc1 (Tot.pos hc2 ?_)) (fun h4=>?_)
  · rw[rdL_nat]
    refine Tot.bind (pick_tot s d.2 _ hs (by omega) (by omega) (by omega)) (fun f hf=>?_)
    refine Tot.bind (pick_tot s f.2 9 hs (by omega) (by omega) (by omega)) (fun g hg=>?_)
    refine Tot.pos hf.2.1 (Tot.pos (hf.2.2.1 (by omega)) (Tot.ret (hset _ ?_)))
    rw[List.length_set]
    omega
  refine Tot.ite (fun h5=>Tot.pos hc1 (Tot.pos hc2 ?_)) (fun h5=>Tot.ret ⟨hts,by show b.1.length≤65;omega,hE⟩)
  rw[rdL_nat,w_pre _ (by omega) (by omega)]
  exact turn_loop s d.2 a.1 a.2.1 b.1 i (by omega) ⟨hts,by omega,hE⟩ (b.1.getD i []).length [] _ (by omega) (by omega) (by omega) (by rw[List.length_nil];omega)
theorem bytes_of(l:List Int)(h: ∀x∈l,(Lit.int .u8 x).wf=true): ∀x∈l,0≤x∧x≤255:=by
  intro x hx
  have:=h x hx
  simp only[Lit.wf,Bool.and_eq_true,decide_eq_true_iff]at this
  have h1:IntKind.u8.min=0:=by decide
  have h2:IntKind.u8.max=255:=by decide
  omega
theorem draw_tot(l:List Int)(h: ∀x∈l,(Lit.int .u8 x).wf=true):Tot (fun k=>spec_DrawEarOk.f k l) (fun r=>DrP r.2.1 r.2.2):=by
  have hb:=bytes_of l h
  refine Tot.unf (fun k=>by rw[spec_DrawEarOk.f]) ?_
  have hgo: ∀s:List Int,Bytes s→Tot (fun k=>(some (s,(0:Int))).bind fun bt102=>((spec_l71Ears.f k bt102.1 bt102.2).bind fun bt105=>(some (bt105.1,bt105.2.1,bt105.2.2.1)))) (fun r=>DrP r.2.1 r.2.2):=by
    intro s hs
    refine Tot.some_ ?_
    exact Tot.bind (ears_tot s hs 0 (by omega) (by omega)) (fun r hr=>Tot.ret hr)
  unfold spec_l6Open.f
  by_cases h1:(l.length:Int)>2000
  · rw[if_pos h1,if_pos (by omega)]
    exact hgo _ ⟨by rw[List.length_take];omega,fun x hx=>hb x (List.mem_of_mem_take hx)⟩
  · rw[if_neg h1]
    exact hgo l ⟨by omega,hb⟩
theorem FnEarCount:laws_FnEarCount.Pure:=by
  intro l _ _ hwf
  have h:Tot (fun k=>laws_FnEarCount.f k l) (fun b=>b=true):=by
    refine Tot.unf (fun k=>by rw[laws_FnEarCount.f]) (Tot.ite (fun _=>Tot.ret rfl) (fun _=>?_))
    refine Tot.bind (draw_tot l hwf) (fun r hr=>?_)
    have hS:=sumLen_le r.2.2 21 hr.2.2
    have h1:=hr.1
    have h2:=hr.2.1
    have h3:r.2.2.length*21≤65*21:=Nat.mul_le_mul_right 21 h2
    have hspec:=specEarOk_tot r.1 r.2.1 r.2.2 (by omega) (by omega)
    refine Tot.bind (implEarOk_tot r.1 r.2.1 r.2.2 (by omega) (by omega) (by omega)) (fun a ha=>Tot.bind hspec (fun b hb=>?_))
    have hab:a=b:=by
      rw[Bool.eq_iff_iff,ha,hb]
    subst hab
    refine Tot.neg (by simp) (Tot.ite (fun h4=>Tot.ret ?_) (fun h4=>Tot.bind hspec (fun c hc=>Tot.ret ?_)))
    · have hok:=ha.mp h4
      have hc:=earsOk_count hok
      have h5:=hok.1.1
      have h6:=hok.1.2.1
      rw[beq_iff_eq,w_int ((r.2.1.length:Int)-r.1) (by omega) (by omega),w_int _ (by omega) (by omega)]
      exact hc
    · rw[beq_iff_eq,Bool.eq_iff_iff,ha,hc]
  obtain⟨k,b,hk,rfl⟩:=h.rounds
  exact⟨k,hk⟩
end Go.Proofs.Ytdafapiadiigcaa.Pure
namespace Go.Proofs.YtdafapiadiigcaaW.PrintWords
open Go.ChangeShapes Go.WideShapes
theorem sized_ints{H:Type}{enc:TypeId×Value→H}{P:Program}{W:World}{base:Nat}{spare:Nat→Bool}{held:Bool}{t e:TypeId}{k:IntKind}{a:Option Addr}{len cap:Nat}{d:DataW H}{ps:List MemPlace}{ts:List TypeId}{ds:List (DataW H)}{j:Nat}
    (hsz:(DataW.weightsEach P ts ds).all (· ≤reachBytes)=true) (ht:ts[j]?=some t) (hd:ds[j]?=some d) (hu:P.underlying t=some (.slice e)) (he:P.underlying e=some (.int k)) (hc:P.cellsOf e=1) {B:Nat} (hB:P.bytesOf e=B)
    (h:DataW.Trod enc P W base spare held t (.slice a len cap) d ps):len*B≤140737488351232:=by
  obtain⟨fuel,hf⟩:=h
  rcases open_ints hu he hc hf with⟨hcs,_⟩|⟨x,l,c,zs,hcs,_,hl,_,hz,hx,_,_⟩
  · simp[Value.cells]at hcs
    obtain⟨rfl,rfl,rfl⟩:=hcs
    simp
  · simp[Value.cells]at hcs
    obtain⟨rfl,rfl,rfl⟩:=hcs
    obtain⟨hx,_⟩:=Prod.mk.inj hx
    subst hx
    have z:=sized_slice hsz ht hd hu
    rw[hB]at z
    have hl2:len≤zs.length:=by
      rw[hz]
      split
      · exact hl
      · exact Nat.le_refl _
    have h1:(lits (H:=H) k (zs.take len)).length+(lits (H:=H) k (zs.drop len)).length=zs.length:=by
      simp[lits]
      omega
    rw[h1]at z
    exact Nat.le_trans (Nat.mul_le_mul_right _ hl2) z
end Go.Proofs.YtdafapiadiigcaaW.PrintWords
namespace Go.Proofs.Ytdafapiadiigcaa.fnEarCount
open Go.ChangeShapes Go.WideShapes Go.ChangeAt Go.RowKit
open Go.ChangeMaps (open_string shut_string)
set_option linter.unusedVariables false
theorem own:ownKnob Try.prog.godebug=none:=by kernel_rfl
theorem laidOut:laidOutB Try.prog=true:=by kernel_rfl
def IsRow(k:IntKind)(w:World)(a:Option Addr)(len cap:Nat)(zs:List Int):Prop:=
  (a=none∧len=0∧cap=0∧zs=[])∨
  ∃x,a=some x∧len≤cap∧cap≤maxLen∧zs.length=cap∧(∀i,i<zs.length→w.cell? (x.add i)=some (.int k (zs.getD i 0)))∧ ∀n∈zs,(Lit.int k n).wf=true
set_option maxRecDepth 100000 in
theorem lifted(os:Os)(started:os.Started)(H:Type)(enc:TypeId×Value→H):
    ReturnsInHanded {} Try.checked os 3 .any (Rows.fnEarCountSpec.pre6 enc Try.prog Try.f3 Rows.fnEarCountRow.domain false) (Rows.fnEarCountSpec.post enc Try.prog Try.f3 false true false false):=by
  refine returnsInHanded_of_change_sized (C:=Try.checked) own started (by kernel_rfl) Try.func3
    (ChangeSpec.witness6 (enc:=enc) (C:=Try.checked) false ⟨#[], #[.slice none 0 0],[]⟩ 8 (by kernel_rfl) (by kernel_rfl) (by kernel_rfl) (by kernel_rfl)) ?_
  intro W base args ds gs before hval0 hW hcnd hsz0 _
  have hsz:(DataW.weightsEach Try.prog (Try.f3.params.toList++Rows.fnEarCountSpec.plain.varTypes Try.prog) (ds++gs)).all (· ≤reachBytes)=true:=hsz0
  have hval: ∀(j:Nat) t v,Try.f3.params[j]?=some t→args[j]?=some v→Value.okWide Try.prog W .any base t v:=hval0
  have hW':=hW
  obtain⟨p,q,hA0,hV,rfl,hfz,hnd⟩:=hW
  have hA:DataW.TrodAll enc Try.prog W 0 (fun _=>true) true Try.f3.params.toList args.toList ds p:=hA0
  rw[Try.params3]at hA hval hsz
  obtain⟨v0,vs0,d0,ds0,p0,q0,hargs,rfl,rfl,h0,r0⟩:=trodAll_cons hA
  obtain⟨rfl,rfl,rfl⟩:=trodAll_nil r0
  obtain rfl:args= #[v0]:=by cases args;simp_all
  obtain⟨rfl,rfl⟩:=trodVars_none hV
  obtain⟨a0,len0,cap0,rfl⟩:=okWide_slice Try.underlying22 (hval 0 22 v0 rfl rfl)
  have k0:=h0
  have lt0: ∀x∈p0,x.block<W.heap.size:=by obtain⟨m,hm⟩:=k0;exact DataW.trod_lt m _ _ _ hm
  obtain⟨z0,w0⟩: ∃zs,IsRow .u8 W a0 len0 cap0 zs:=by
    obtain⟨fuel,hf⟩:=h0
    rcases open_ints Try.underlying22 Try.underlying5 (by kernel_rfl) hf with⟨hcs,_⟩|⟨x,l,c,zs,hcs,_,hl,hm,hz,_,hcell,hwz⟩
    · simp[Value.cells]at hcs
      obtain⟨rfl,rfl,rfl⟩:=hcs
      exact⟨[],.inl ⟨rfl,rfl,rfl,rfl⟩⟩
    · simp[Value.cells]at hcs
      obtain⟨rfl,rfl,rfl⟩:=hcs
      exact⟨zs,.inr ⟨_,rfl,hl,hm,by simpa using hz,hcell,hwz⟩⟩
  have y0:len0*1≤140737488351232:=Go.Proofs.YtdafapiadiigcaaW.PrintWords.sized_ints hsz (j:=0) (t:=22) rfl rfl Try.underlying22 Try.underlying5 (by kernel_rfl) (by kernel_rfl) h0
  clear hA0 hval0 hsz0 hsz
  refine(P.laws_FnEarCount.walk Pure.FnEarCount a0 len0 cap0 z0 W w0 y0).mono fun e W' ⟨he,bel⟩=>?_
  subst he
  exact⟨_,rfl,_,_,_,[],_,[],hW',trodAll_mk1 (shut_bool Try.underlying4 _),(trodAll_cons_mk (Below.trod laidOut (by kernel_rfl) (of_decide_eq_true (by kernel_rfl)) k0 bel lt0) trodAll_mk0),rfl,bel.frame _,fun h=>by cases h⟩
theorem over:Rows.fnEarCountRow.holds Try.pinned (OpenSpec.ofChange Rows.fnEarCountSpec):=
  OpenClaim.holds_of_wide 3 Try.f3 rfl rfl rfl rfl rfl rfl rfl ⟨rfl,rfl,rfl,rfl,rfl⟩ rfl rfl rfl rfl rfl (by kernel_rfl) Try.func3 (by kernel_rfl)
    (of_decide_eq_true (by kernel_rfl)) (by unfold Func.isWrapper;first|(rw[if_pos (by decide+kernel)];kernel_rfl)|(rw[if_neg (by decide+kernel)];exact⟨rfl,rfl⟩))
    (fun os started H enc _=>lifted os started H enc)
theorem proved:Rows.FnEarCountSaid:=over
#print axioms proved
end Go.Proofs.Ytdafapiadiigcaa.fnEarCount
namespace Go.Proofs.Ytdafapiadiigcaa
theorem fnEarCount_holds:Rows.FnEarCountSaid:=fnEarCount.proved
end Go.Proofs.Ytdafapiadiigcaa
