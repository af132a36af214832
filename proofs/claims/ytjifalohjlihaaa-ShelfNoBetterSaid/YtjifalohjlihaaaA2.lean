import Derived.Test.YtjifalohjlihaaaA1
section
namespace Go.Proofs.Ytjifalohjlihaaa.Q
open Go.RowKit Go.Proofs.YtjifalohjlihaaaW.PrintWords Go.Proofs.YtjifalohjlihaaaW.PrintLast Go.Proofs.YtjifalohjlihaaaW.PrintMore
attribute [local go_sem] max2_int min2_int max_two min_two max_three min_three max_four min_four
set_option linter.unusedVariables false
set_option linter.unusedSimpArgs false
def anillaw06_to.f (a0_0:Int) (a0_1:Int):Option (Int×Int):=some (a0_0,a0_1)
set_option maxHeartbeats 8000000 in
set_option maxRecDepth 100000 in
theorem anillaw06_to.calls (a0_0:Int) (a0_1:Int) (r1:Int) (r2:Int) (w:World) (h:anillaw06_to.f a0_0 a0_1=some (r1,r2)):
  Calls Try.prog 31 #[.agg #[.int .i64 a0_0,.int .i64 a0_1]] w fun e w'=>e= .returned (.agg #[.int .i64 r1,.int .i64 r2])∧Below w.heap.size w w':=by
 have hu52:=Try.underlying52
 have hu56:=Try.underlying56
 have HB:=Aside0.mk (Below.refl w.heap.size w)
 have H:(some (a0_0,a0_1))=some (r1,r2):=h
 clear h
 simp only [Option.some.injEq,Prod.mk.injEq]at H
 obtain⟨rfl,rfl⟩:=H
 go_enter Try.func31,Try.ntmps31
 go_wp2_with (first|((with_reducible refine gate_dst (N:=1) rfl ?_);refine box_event ?hg (N:=1) ?hd (cs:=#[.int .i64 a0_0,.int .i64 a0_1]) (t:=52) ?hr ?_;(case hd=>rfl);(case hg=>rfl);(case hr=>first|(go_simp;done)|(go_simp;rfl));intro gb102 hg w2 hbox hb;have n0_:=Aside0.mk (below_step (by repeat(first|(with_reducible first|exact HB.out|apply below_alloc|apply pw_below_drewN|apply below_drew1)|exact HB.out)) hb);have n1_:=Aside0.mk (hbox);have n2_:=Aside0.mk ((by rw [hg];exact(below_size (by repeat(first|(with_reducible first|exact HB.out|apply below_alloc|apply pw_below_drewN|apply below_drew1)|exact HB.out))):w.heap.size≤gb102));have n3_:=Aside0.mk ((by rw [hg];exact(below_size (by repeat(first|(with_reducible first|exact HB.out|apply below_alloc|apply pw_below_drewN|apply below_drew1)|exact HB.out))):w.heap.size≤gb102));clear HB;have HB:=n0_;have BK102:=n1_;have GW102:=n2_;have GE102:=n3_;clear n0_ n1_ n2_ n3_;clear hb hbox hg)|((with_reducible refine gate_dst (N:=2) rfl ?_);refine box_event ?hg (N:=2) ?hd (cs:=#[.int .i64 0,.int .i64 0]) (t:=56) ?hr ?_;(case hd=>rfl);(case hg=>rfl);(case hr=>first|(go_simp;done)|(go_simp;rfl));intro gb103 hg w3 hbox hb;have n0_:=Aside0.mk (blk_below (g:=gb102) (o:= .cells #[.int .i64 a0_0,.int .i64 a0_1] 52 (0,0)) (by(with_reducible repeat(first|refine blk_drewN ?_ _|refine blk_drew ?_|refine blk_alloc ?_ _));exact BK102.out) hb);have n1_:=Aside0.mk (below_step (by repeat(first|(with_reducible first|exact HB.out|apply below_alloc|apply pw_below_drewN|apply below_drew1|refine below_set ?_ GE102.out)|exact HB.out)) hb);have n2_:=Aside0.mk (hbox);have n3_:=Aside0.mk ((by rw [hg];exact(below_size (by repeat(first|(with_reducible first|exact HB.out|apply below_alloc|apply pw_below_drewN|apply below_drew1|refine below_set ?_ GE102.out)|exact HB.out))):w.heap.size≤gb103));have n4_:=Aside0.mk ((by rw [hg];exact(below_size (by repeat(first|(with_reducible first|exact HB.out|apply below_alloc|apply pw_below_drewN|apply below_drew1|refine below_set ?_ GE102.out)|exact HB.out))):w.heap.size≤gb103));have n5_:=Aside0.mk ((by rw [hg];exact Nat.ne_of_lt (blk_lt (g:=gb102) (o:= .cells #[.int .i64 a0_0,.int .i64 a0_1] 52 (0,0)) (by(with_reducible repeat(first|refine blk_drewN ?_ _|refine blk_drew ?_|refine blk_alloc ?_ _));exact BK102.out)):gb102≠gb103));have n6_:=Aside0.mk ((by rw [hg];exact Nat.ne_of_gt (blk_lt (g:=gb102) (o:= .cells #[.int .i64 a0_0,.int .i64 a0_1] 52 (0,0)) (by(with_reducible repeat(first|refine blk_drewN ?_ _|refine blk_drew ?_|refine blk_alloc ?_ _));exact BK102.out)):gb103≠gb102));clear BK102;clear HB;have BK102:=n0_;have HB:=n1_;have BK103:=n2_;have GW103:=n3_;have GE103:=n4_;have NB102_103:=n5_;have NB103_102:=n6_;clear n0_ n1_ n2_ n3_ n4_ n5_ n6_;clear hb hbox hg;have hnb4:=NB102_103.out;have hnc4:=NB103_102.out;have hcz5_0:w3.cell? ⟨gb102,0,none⟩=some (.int .i64 a0_0):=(blk_cell BK102.out 0).trans rfl;have hcz5_1:w3.cell? ⟨gb102,1,none⟩=some (.int .i64 a0_1):=(blk_cell BK102.out 1).trans rfl;have hfz5_0:=blk_frozen BK102.out 0;have hfz5_1:=blk_frozen BK102.out 1;have hcz6_0:w3.cell? ⟨gb103,0,none⟩=some (.int .i64 0):=(blk_cell BK103.out 0).trans rfl;have hcz6_1:w3.cell? ⟨gb103,1,none⟩=some (.int .i64 0):=(blk_cell BK103.out 1).trans rfl;have hfz6_0:=blk_frozen BK103.out 0;have hfz6_1:=blk_frozen BK103.out 1))
 refine bodyPost_ret (results_cell_row rfl _ _ gb103 56 #[.int .i64 a0_0,.int .i64 a0_1] (0,0) _ rfl (by(with_reducible repeat(first|refine blk_drewN ?_ _|refine blk_drew ?_|refine blk_alloc ?_ _));refine blk_put (cs:=#[.int .i64 a0_0,.int .i64 0]) ?_ 1 _ rfl;(with_reducible repeat(first|refine blk_drewN ?_ _|refine blk_drew ?_|refine blk_alloc ?_ _));refine blk_put (cs:=#[.int .i64 0,.int .i64 0]) ?_ 0 _ rfl;(with_reducible repeat(first|refine blk_drewN ?_ _|refine blk_drew ?_|refine blk_alloc ?_ _));exact BK103.out) Try.underlying56 rfl (by kernel_rfl)) rfl ?_
 exact⟨by first|rfl|(simp [errW_none,errW_some]<;>rfl)|(simp [*,errW_none,errW_some]<;>rfl),by repeat(first|(with_reducible first|exact HB.out|apply below_alloc|apply pw_below_drewN|apply below_drew1|refine below_set ?_ GE102.out|refine below_set ?_ GE103.out)|exact HB.out)⟩
end Go.Proofs.Ytjifalohjlihaaa.Q
end
section
namespace Go.Proofs.Ytjifalohjlihaaa.Q
open Go.RowKit Go.Proofs.YtjifalohjlihaaaW.PrintWords Go.Proofs.YtjifalohjlihaaaW.PrintLast Go.Proofs.YtjifalohjlihaaaW.PrintMore
attribute [local go_sem] max2_int min2_int max_two min_two max_three min_three max_four min_four
set_option linter.unusedVariables false
set_option linter.unusedSimpArgs false
def anillaw06_Thin.f (a0_0:Int) (l0_1:List (S52)) (l0_2:List (S89)) (l0_3:List (S54)) (l0_4:List Int) (l0_5:List (S108)):Option (Bool):=if (l0_1.length:Int)≤30 then(if (l0_2.length:Int)≤30 then(if (l0_3.length:Int)≤30 then(if (l0_5.length:Int)≤30 then(some (decide ((l0_4.length:Int)≤30)))else(some false))else(some false))else(some false))else(some false)
set_option maxHeartbeats 8000000 in
set_option maxRecDepth 100000 in
theorem anillaw06_Thin.calls (a0_0:Int) (A0_1:Option Addr) (c0_1:Nat) (l0_1:List (S52)) (A0_2:Option Addr) (c0_2:Nat) (l0_2:List (S89)) (A0_3:Option Addr) (c0_3:Nat) (l0_3:List (S54)) (A0_4:Option Addr) (c0_4:Nat) (l0_4:List Int) (A0_5:Option Addr) (c0_5:Nat) (l0_5:List (S108)) (r:Bool) (w:World) (hr0_1:Kd.C k52 w A0_1 l0_1.length l0_1) (hc0_1:l0_1.length≤c0_1) (hr0_2:Kd.C k89 w A0_2 l0_2.length l0_2) (hc0_2:l0_2.length≤c0_2) (hr0_3:Kd.C k54 w A0_3 l0_3.length l0_3) (hc0_3:l0_3.length≤c0_3) (hr0_4:Kd.C (Kd.int .i64) w A0_4 l0_4.length l0_4) (hc0_4:l0_4.length≤c0_4) (hr0_5:Kd.C k108 w A0_5 l0_5.length l0_5) (hc0_5:l0_5.length≤c0_5) (h:anillaw06_Thin.f a0_0 l0_1 l0_2 l0_3 l0_4 l0_5=some r):
  Calls Try.prog 19 #[.agg #[.int .i64 a0_0,.slice A0_1 l0_1.length c0_1,.slice A0_2 l0_2.length c0_2,.slice A0_3 l0_3.length c0_3,.slice A0_4 l0_4.length c0_4,.slice A0_5 l0_5.length c0_5]] w fun e w'=>e= .returned (.bool r)∧Below w.heap.size w w':=by
 have hu28:=Try.underlying28
 have HR0_1:=Aside0.mk hr0_1
 have HC0_1:=Aside0.mk hc0_1
 clear hr0_1 hc0_1
 have HR0_2:=Aside0.mk hr0_2
 have HC0_2:=Aside0.mk hc0_2
 clear hr0_2 hc0_2
 have HR0_3:=Aside0.mk hr0_3
 have HC0_3:=Aside0.mk hc0_3
 clear hr0_3 hc0_3
 have HR0_4:=Aside0.mk hr0_4
 have HC0_4:=Aside0.mk hc0_4
 clear hr0_4 hc0_4
 have HR0_5:=Aside0.mk hr0_5
 have HC0_5:=Aside0.mk hc0_5
 clear hr0_5 hc0_5
 have HB:=Aside0.mk (Below.refl w.heap.size w)
 have H:(if (l0_1.length:Int)≤30 then(if (l0_2.length:Int)≤30 then(if (l0_3.length:Int)≤30 then(if (l0_5.length:Int)≤30 then(some (decide ((l0_4.length:Int)≤30)))else(some false))else(some false))else(some false))else(some false))=some r:=h
 clear h
 by_cases c2:(l0_1.length:Int)≤30
 ·rw [if_pos c2]at H
  have c2b0:decide ((l0_1.length:Int)≤30)=true:=decide_eq_true c2
  have c2b1:decide (l0_1.length≤30)=true:=decide_eq_true (by omega)
  clear c2
  by_cases c3:(l0_2.length:Int)≤30
  ·rw [if_pos c3]at H
   have c3b0:decide ((l0_2.length:Int)≤30)=true:=decide_eq_true c3
   have c3b1:decide (l0_2.length≤30)=true:=decide_eq_true (by omega)
   clear c3
   by_cases c4:(l0_3.length:Int)≤30
   ·rw [if_pos c4]at H
    have c4b0:decide ((l0_3.length:Int)≤30)=true:=decide_eq_true c4
    have c4b1:decide (l0_3.length≤30)=true:=decide_eq_true (by omega)
    clear c4
    by_cases c5:(l0_5.length:Int)≤30
    ·rw [if_pos c5]at H
     have c5b0:decide ((l0_5.length:Int)≤30)=true:=decide_eq_true c5
     have c5b1:decide (l0_5.length≤30)=true:=decide_eq_true (by omega)
     clear c5
     obtain rfl:=Option.some.inj H
     go_enter Try.func19,Try.ntmps19
     go_wp2_with (first|((with_reducible refine gate_dst (N:=1) rfl ?_);(try (refine gate_guard (by rfl) ?_;dsimp only));refine box_event ?hg (N:=1) ?hd (cs:=#[.int .i64 a0_0,.slice A0_1 l0_1.length c0_1,.slice A0_2 l0_2.length c0_2,.slice A0_3 l0_3.length c0_3,.slice A0_4 l0_4.length c0_4,.slice A0_5 l0_5.length c0_5]) (t:=28) ?hr ?_;(case hd=>rfl);(case hg=>rfl);(case hr=>first|(go_simp;done)|(go_simp;rfl));intro gb101 hg w6 hbox hb;have n0_:=Aside0.mk (below_step (by repeat(first|(with_reducible first|exact HB.out|apply below_alloc|apply pw_below_drewN|apply below_drew1)|exact HB.out)) hb);have n1_:=Aside0.mk (hbox);have n2_:=Aside0.mk ((by rw [hg];exact(below_size (by repeat(first|(with_reducible first|exact HB.out|apply below_alloc|apply pw_below_drewN|apply below_drew1)|exact HB.out))):w.heap.size≤gb101));have n3_:=Aside0.mk ((by rw [hg];exact(below_size (by repeat(first|(with_reducible first|exact HB.out|apply below_alloc|apply pw_below_drewN|apply below_drew1)|exact HB.out))):w.heap.size≤gb101));clear HB;have HB:=n0_;have BK101:=n1_;have GW101:=n2_;have GE101:=n3_;clear n0_ n1_ n2_ n3_;clear hb hbox hg;have hcz7_0:w6.cell? ⟨gb101,0,none⟩=some (.int .i64 a0_0):=(blk_cell BK101.out 0).trans rfl;have hcz7_1:w6.cell? ⟨gb101,1,none⟩=some (.slice A0_1 l0_1.length c0_1):=(blk_cell BK101.out 1).trans rfl;have hcz7_2:w6.cell? ⟨gb101,2,none⟩=some (.slice A0_2 l0_2.length c0_2):=(blk_cell BK101.out 2).trans rfl;have hcz7_3:w6.cell? ⟨gb101,3,none⟩=some (.slice A0_3 l0_3.length c0_3):=(blk_cell BK101.out 3).trans rfl;have hcz7_4:w6.cell? ⟨gb101,4,none⟩=some (.slice A0_4 l0_4.length c0_4):=(blk_cell BK101.out 4).trans rfl;have hcz7_5:w6.cell? ⟨gb101,5,none⟩=some (.slice A0_5 l0_5.length c0_5):=(blk_cell BK101.out 5).trans rfl;have hfz7_0:=blk_frozen BK101.out 0;have hfz7_1:=blk_frozen BK101.out 1;have hfz7_2:=blk_frozen BK101.out 2;have hfz7_3:=blk_frozen BK101.out 3;have hfz7_4:=blk_frozen BK101.out 4;have hfz7_5:=blk_frozen BK101.out 5))
     go_ret
     exact⟨by first|rfl|(simp [errW_none,errW_some]<;>rfl)|(simp [*,errW_none,errW_some]<;>rfl),by repeat(first|(with_reducible first|exact HB.out|apply below_alloc|apply pw_below_drewN|apply below_drew1|refine below_set ?_ GE101.out)|exact HB.out)⟩
    ·rw [if_neg c5]at H
     have c5b0:decide ((l0_5.length:Int)≤30)=false:=decide_eq_false c5
     have c5b1:decide (l0_5.length≤30)=false:=decide_eq_false (by omega)
     clear c5
     obtain rfl:=Option.some.inj H
     go_enter Try.func19,Try.ntmps19
     go_wp2_with (first|((with_reducible refine gate_dst (N:=1) rfl ?_);(try (refine gate_guard (by rfl) ?_;dsimp only));refine box_event ?hg (N:=1) ?hd (cs:=#[.int .i64 a0_0,.slice A0_1 l0_1.length c0_1,.slice A0_2 l0_2.length c0_2,.slice A0_3 l0_3.length c0_3,.slice A0_4 l0_4.length c0_4,.slice A0_5 l0_5.length c0_5]) (t:=28) ?hr ?_;(case hd=>rfl);(case hg=>rfl);(case hr=>first|(go_simp;done)|(go_simp;rfl));intro gb101 hg w8 hbox hb;have n0_:=Aside0.mk (below_step (by repeat(first|(with_reducible first|exact HB.out|apply below_alloc|apply pw_below_drewN|apply below_drew1)|exact HB.out)) hb);have n1_:=Aside0.mk (hbox);have n2_:=Aside0.mk ((by rw [hg];exact(below_size (by repeat(first|(with_reducible first|exact HB.out|apply below_alloc|apply pw_below_drewN|apply below_drew1)|exact HB.out))):w.heap.size≤gb101));have n3_:=Aside0.mk ((by rw [hg];exact(below_size (by repeat(first|(with_reducible first|exact HB.out|apply below_alloc|apply pw_below_drewN|apply below_drew1)|exact HB.out))):w.heap.size≤gb101));clear HB;have HB:=n0_;have BK101:=n1_;have GW101:=n2_;have GE101:=n3_;clear n0_ n1_ n2_ n3_;clear hb hbox hg;have hcz9_0:w8.cell? ⟨gb101,0,none⟩=some (.int .i64 a0_0):=(blk_cell BK101.out 0).trans rfl;have hcz9_1:w8.cell? ⟨gb101,1,none⟩=some (.slice A0_1 l0_1.length c0_1):=(blk_cell BK101.out 1).trans rfl;have hcz9_2:w8.cell? ⟨gb101,2,none⟩=some (.slice A0_2 l0_2.length c0_2):=(blk_cell BK101.out 2).trans rfl;have hcz9_3:w8.cell? ⟨gb101,3,none⟩=some (.slice A0_3 l0_3.length c0_3):=(blk_cell BK101.out 3).trans rfl;have hcz9_4:w8.cell? ⟨gb101,4,none⟩=some (.slice A0_4 l0_4.length c0_4):=(blk_cell BK101.out 4).trans rfl;have hcz9_5:w8.cell? ⟨gb101,5,none⟩=some (.slice A0_5 l0_5.length c0_5):=(blk_cell BK101.out 5).trans rfl;have hfz9_0:=blk_frozen BK101.out 0;have hfz9_1:=blk_frozen BK101.out 1;have hfz9_2:=blk_frozen BK101.out 2;have hfz9_3:=blk_frozen BK101.out 3;have hfz9_4:=blk_frozen BK101.out 4;have hfz9_5:=blk_frozen BK101.out 5))
     go_ret
     exact⟨by first|rfl|(simp [errW_none,errW_some]<;>rfl)|(simp [*,errW_none,errW_some]<;>rfl),by repeat(first|(with_reducible first|exact HB.out|apply below_alloc|apply pw_below_drewN|apply below_drew1|refine below_set ?_ GE101.out)|exact HB.out)⟩
   ·rw [if_neg c4]at H
    have c4b0:decide ((l0_3.length:Int)≤30)=false:=decide_eq_false c4
    have c4b1:decide (l0_3.length≤30)=false:=decide_eq_false (by omega)
    clear c4
    obtain rfl:=Option.some.inj H
    go_enter Try.func19,Try.ntmps19
    go_wp2_with (first|((with_reducible refine gate_dst (N:=1) rfl ?_);(try (refine gate_guard (by rfl) ?_;dsimp only));refine box_event ?hg (N:=1) ?hd (cs:=#[.int .i64 a0_0,.slice A0_1 l0_1.length c0_1,.slice A0_2 l0_2.length c0_2,.slice A0_3 l0_3.length c0_3,.slice A0_4 l0_4.length c0_4,.slice A0_5 l0_5.length c0_5]) (t:=28) ?hr ?_;(case hd=>rfl);(case hg=>rfl);(case hr=>first|(go_simp;done)|(go_simp;rfl));intro gb101 hg w10 hbox hb;have n0_:=Aside0.mk (below_step (by repeat(first|(with_reducible first|exact HB.out|apply below_alloc|apply pw_below_drewN|apply below_drew1)|exact HB.out)) hb);have n1_:=Aside0.mk (hbox);have n2_:=Aside0.mk ((by rw [hg];exact(below_size (by repeat(first|(with_reducible first|exact HB.out|apply below_alloc|apply pw_below_drewN|apply below_drew1)|exact HB.out))):w.heap.size≤gb101));have n3_:=Aside0.mk ((by rw [hg];exact(below_size (by repeat(first|(with_reducible first|exact HB.out|apply below_alloc|apply pw_below_drewN|apply below_drew1)|exact HB.out))):w.heap.size≤gb101));clear HB;have HB:=n0_;have BK101:=n1_;have GW101:=n2_;have GE101:=n3_;clear n0_ n1_ n2_ n3_;clear hb hbox hg;have hcz11_0:w10.cell? ⟨gb101,0,none⟩=some (.int .i64 a0_0):=(blk_cell BK101.out 0).trans rfl;have hcz11_1:w10.cell? ⟨gb101,1,none⟩=some (.slice A0_1 l0_1.length c0_1):=(blk_cell BK101.out 1).trans rfl;have hcz11_2:w10.cell? ⟨gb101,2,none⟩=some (.slice A0_2 l0_2.length c0_2):=(blk_cell BK101.out 2).trans rfl;have hcz11_3:w10.cell? ⟨gb101,3,none⟩=some (.slice A0_3 l0_3.length c0_3):=(blk_cell BK101.out 3).trans rfl;have hcz11_4:w10.cell? ⟨gb101,4,none⟩=some (.slice A0_4 l0_4.length c0_4):=(blk_cell BK101.out 4).trans rfl;have hcz11_5:w10.cell? ⟨gb101,5,none⟩=some (.slice A0_5 l0_5.length c0_5):=(blk_cell BK101.out 5).trans rfl;have hfz11_0:=blk_frozen BK101.out 0;have hfz11_1:=blk_frozen BK101.out 1;have hfz11_2:=blk_frozen BK101.out 2;have hfz11_3:=blk_frozen BK101.out 3;have hfz11_4:=blk_frozen BK101.out 4;have hfz11_5:=blk_frozen BK101.out 5))
    go_ret
    exact⟨by first|rfl|(simp [errW_none,errW_some]<;>rfl)|(simp [*,errW_none,errW_some]<;>rfl),by repeat(first|(with_reducible first|exact HB.out|apply below_alloc|apply pw_below_drewN|apply below_drew1|refine below_set ?_ GE101.out)|exact HB.out)⟩
  ·rw [if_neg c3]at H
   have c3b0:decide ((l0_2.length:Int)≤30)=false:=decide_eq_false c3
   have c3b1:decide (l0_2.length≤30)=false:=decide_eq_false (by omega)
   clear c3
   obtain rfl:=Option.some.inj H
   go_enter Try.func19,Try.ntmps19
   go_wp2_with (first|((with_reducible refine gate_dst (N:=1) rfl ?_);(try (refine gate_guard (by rfl) ?_;dsimp only));refine box_event ?hg (N:=1) ?hd (cs:=#[.int .i64 a0_0,.slice A0_1 l0_1.length c0_1,.slice A0_2 l0_2.length c0_2,.slice A0_3 l0_3.length c0_3,.slice A0_4 l0_4.length c0_4,.slice A0_5 l0_5.length c0_5]) (t:=28) ?hr ?_;(case hd=>rfl);(case hg=>rfl);(case hr=>first|(go_simp;done)|(go_simp;rfl));intro gb101 hg w12 hbox hb;have n0_:=Aside0.mk (below_step (by repeat(first|(with_reducible first|exact HB.out|apply below_alloc|apply pw_below_drewN|apply below_drew1)|exact HB.out)) hb);have n1_:=Aside0.mk (hbox);have n2_:=Aside0.mk ((by rw [hg];exact(below_size (by repeat(first|(with_reducible first|exact HB.out|apply below_alloc|apply pw_below_drewN|apply below_drew1)|exact HB.out))):w.heap.size≤gb101));have n3_:=Aside0.mk ((by rw [hg];exact(below_size (by repeat(first|(with_reducible first|exact HB.out|apply below_alloc|apply pw_below_drewN|apply below_drew1)|exact HB.out))):w.heap.size≤gb101));clear HB;have HB:=n0_;have BK101:=n1_;have GW101:=n2_;have GE101:=n3_;clear n0_ n1_ n2_ n3_;clear hb hbox hg;have hcz13_0:w12.cell? ⟨gb101,0,none⟩=some (.int .i64 a0_0):=(blk_cell BK101.out 0).trans rfl;have hcz13_1:w12.cell? ⟨gb101,1,none⟩=some (.slice A0_1 l0_1.length c0_1):=(blk_cell BK101.out 1).trans rfl;have hcz13_2:w12.cell? ⟨gb101,2,none⟩=some (.slice A0_2 l0_2.length c0_2):=(blk_cell BK101.out 2).trans rfl;have hcz13_3:w12.cell? ⟨gb101,3,none⟩=some (.slice A0_3 l0_3.length c0_3):=(blk_cell BK101.out 3).trans rfl;have hcz13_4:w12.cell? ⟨gb101,4,none⟩=some (.slice A0_4 l0_4.length c0_4):=(blk_cell BK101.out 4).trans rfl;have hcz13_5:w12.cell? ⟨gb101,5,none⟩=some (.slice A0_5 l0_5.length c0_5):=(blk_cell BK101.out 5).trans rfl;have hfz13_0:=blk_frozen BK101.out 0;have hfz13_1:=blk_frozen BK101.out 1;have hfz13_2:=blk_frozen BK101.out 2;have hfz13_3:=blk_frozen BK101.out 3;have hfz13_4:=blk_frozen BK101.out 4;have hfz13_5:=blk_frozen BK101.out 5))
   go_ret
   exact⟨by first|rfl|(simp [errW_none,errW_some]<;>rfl)|(simp [*,errW_none,errW_some]<;>rfl),by repeat(first|(with_reducible first|exact HB.out|apply below_alloc|apply pw_below_drewN|apply below_drew1|refine below_set ?_ GE101.out)|exact HB.out)⟩
 ·rw [if_neg c2]at H
  have c2b0:decide ((l0_1.length:Int)≤30)=false:=decide_eq_false c2
  have c2b1:decide (l0_1.length≤30)=false:=decide_eq_false (by omega)
  clear c2
  obtain rfl:=Option.some.inj H
  go_enter Try.func19,Try.ntmps19
  go_wp2_with (first|((with_reducible refine gate_dst (N:=1) rfl ?_);(try (refine gate_guard (by rfl) ?_;dsimp only));refine box_event ?hg (N:=1) ?hd (cs:=#[.int .i64 a0_0,.slice A0_1 l0_1.length c0_1,.slice A0_2 l0_2.length c0_2,.slice A0_3 l0_3.length c0_3,.slice A0_4 l0_4.length c0_4,.slice A0_5 l0_5.length c0_5]) (t:=28) ?hr ?_;(case hd=>rfl);(case hg=>rfl);(case hr=>first|(go_simp;done)|(go_simp;rfl));intro gb101 hg w14 hbox hb;have n0_:=Aside0.mk (below_step (by repeat(first|(with_reducible first|exact HB.out|apply below_alloc|apply pw_below_drewN|apply below_drew1)|exact HB.out)) hb);have n1_:=Aside0.mk (hbox);have n2_:=Aside0.mk ((by rw [hg];exact(below_size (by repeat(first|(with_reducible first|exact HB.out|apply below_alloc|apply pw_below_drewN|apply below_drew1)|exact HB.out))):w.heap.size≤gb101));have n3_:=Aside0.mk ((by rw [hg];exact(below_size (by repeat(first|(with_reducible first|exact HB.out|apply below_alloc|apply pw_below_drewN|apply below_drew1)|exact HB.out))):w.heap.size≤gb101));clear HB;have HB:=n0_;have BK101:=n1_;have GW101:=n2_;have GE101:=n3_;clear n0_ n1_ n2_ n3_;clear hb hbox hg;have hcz15_0:w14.cell? ⟨gb101,0,none⟩=some (.int .i64 a0_0):=(blk_cell BK101.out 0).trans rfl;have hcz15_1:w14.cell? ⟨gb101,1,none⟩=some (.slice A0_1 l0_1.length c0_1):=(blk_cell BK101.out 1).trans rfl;have hcz15_2:w14.cell? ⟨gb101,2,none⟩=some (.slice A0_2 l0_2.length c0_2):=(blk_cell BK101.out 2).trans rfl;have hcz15_3:w14.cell? ⟨gb101,3,none⟩=some (.slice A0_3 l0_3.length c0_3):=(blk_cell BK101.out 3).trans rfl;have hcz15_4:w14.cell? ⟨gb101,4,none⟩=some (.slice A0_4 l0_4.length c0_4):=(blk_cell BK101.out 4).trans rfl;have hcz15_5:w14.cell? ⟨gb101,5,none⟩=some (.slice A0_5 l0_5.length c0_5):=(blk_cell BK101.out 5).trans rfl;have hfz15_0:=blk_frozen BK101.out 0;have hfz15_1:=blk_frozen BK101.out 1;have hfz15_2:=blk_frozen BK101.out 2;have hfz15_3:=blk_frozen BK101.out 3;have hfz15_4:=blk_frozen BK101.out 4;have hfz15_5:=blk_frozen BK101.out 5))
  go_ret
  exact⟨by first|rfl|(simp [errW_none,errW_some]<;>rfl)|(simp [*,errW_none,errW_some]<;>rfl),by repeat(first|(with_reducible first|exact HB.out|apply below_alloc|apply pw_below_drewN|apply below_drew1|refine below_set ?_ GE101.out)|exact HB.out)⟩
end Go.Proofs.Ytjifalohjlihaaa.Q
end
section
namespace Go.Proofs.Ytjifalohjlihaaa.Q
open Go.RowKit Go.Proofs.YtjifalohjlihaaaW.PrintWords Go.Proofs.YtjifalohjlihaaaW.PrintLast Go.Proofs.YtjifalohjlihaaaW.PrintMore
attribute [local go_sem] max2_int min2_int max_two min_two max_three min_three max_four min_four
set_option linter.unusedVariables false
set_option linter.unusedSimpArgs false
mutual
def anilref06_Before.l0:Nat→List Int→List Int→Int→Option (Bool)
 |0,_,_,_=>none
 |k+1,x0,x1,x5=>if x5 <(x0.length:Int)then(anilref06_Before.j1 k x0 x1 x5 (decide (x5 <(x1.length:Int))))else(anilref06_Before.j1 k x0 x1 x5 false)
def anilref06_Before.j1:Nat→List Int→List Int→Int→Bool→Option (Bool)
 |0,_,_,_,_=>none
 |k+1,x0,x1,x5,x15=>if x15=true then(if 0≤x5 then(if x5 <(x0.length:Int)then(if x5 <(x1.length:Int)then(if (rd x0 x5)=(rd x1 x5)then(anilref06_Before.l0 k x0 x1 (wrap64 (x5+1)))else(some (decide ((rd x0 x5) <(rd x1 x5)))))else(none))else(none))else(none))else(some (decide ((x0.length:Int) <(x1.length:Int))))
end
def anilref06_Before.f (k:Nat) (l0:List Int) (l1:List Int):Option (Bool):=anilref06_Before.l0 k l0 l1 0
set_option maxHeartbeats 8000000 in
set_option maxRecDepth 100000 in
theorem anilref06_Before.calls (k:Nat) (A0:Option Addr) (c0:Nat) (l0:List Int) (A1:Option Addr) (c1:Nat) (l1:List Int) (r:Bool) (w:World) (hr0:Kd.C (Kd.int .i64) w A0 l0.length l0) (hc0:l0.length≤c0) (hr1:Kd.C (Kd.int .i64) w A1 l1.length l1) (hc1:l1.length≤c1) (h:anilref06_Before.f k l0 l1=some r):
  Calls Try.prog 62 #[.slice A0 l0.length c0,.slice A1 l1.length c1] w fun e w'=>e= .returned (.bool r)∧Drawn0 w w':=by
 have HR0:=Aside0.mk hr0
 have HC0:=Aside0.mk hc0
 clear hr0 hc0
 have HR1:=Aside0.mk hr1
 have HC1:=Aside0.mk hc1
 clear hr1 hc1
 have H:(anilref06_Before.l0 k l0 l1 0)=some r:=h
 clear h
 have H':=Aside0.mk H
 clear H
 go_enter Try.func62,Try.ntmps62
 go_wp2
 repeat(go_quiet (fail);try go_wp2)
 go_loopg [5] k (fun kq v5 w'=>∃(x5_1:Int),v5= .int .i64 x5_1∧Aside0 (anilref06_Before.l0 kq l0 l1 x5_1=some r)∧Aside0 (kq≤k)∧Drawn0 w w')
 case atStart=>exact⟨(0),(by first|rfl|(simp;done)|(simp [*];done)),H',⟨Nat.le_refl _⟩,by repeat(first|exact Drawn0.refl _|apply Drawn0.step)⟩
 case round=>
  clear H'
  try clear c1
  try clear p2
  obtain⟨x5_1,rfl,HA,HK1,⟨m1,rfl⟩⟩:=hrel
  cases gk with
  |zero=>exact absurd HA.out (by simp [anilref06_Before.l0])
  |succ k1=>
   have H:=HA.out
   clear HA
   simp only [anilref06_Before.l0]at H
   have HC3:=Aside0.mk H
   clear H
   go_upto_region 2 with(fail)
   repeat(go_quiet (fail);go_upto_region 2 with(fail))
   go_cut [15] (fun v15 wc=>∃(kq:Nat) (x15_2:Bool),v15= .bool x15_2∧Aside0 (anilref06_Before.j1 kq l0 l1 x5_1 x15_2=some r)∧Aside0 (kq≤k1)∧Drawn0 w wc)
   case first=>
    have H:=HC3.out
    clear HC3
    by_cases c4:x5_1 <(l0.length:Int)
    ·rw [if_pos c4]at H
     have c4b0:decide (x5_1 <(l0.length:Int))=true:=decide_eq_true c4
     clear c4
     (first|rw [c4b0]|(simp only [i64_w,i32_w];rw [c4b0])|skip)
     have H':=Aside0.mk H
     clear H
     go_wp2
     repeat(go_quiet (fail);try go_wp2)
     go_meet
     case rel=>exact⟨_,(decide (x5_1 <(l1.length:Int))),(by first|rfl|(simp;done)|(simp [*];done)),H',⟨by have:=HK1.out;first|omega|exact Nat.le_refl _⟩,by repeat(first|exact Drawn0.refl _|apply Drawn0.step)⟩
    ·rw [if_neg c4]at H
     have c4b0:decide (x5_1 <(l0.length:Int))=false:=decide_eq_false c4
     clear c4
     (first|rw [c4b0]|(simp only [i64_w,i32_w];rw [c4b0])|skip)
     have H':=Aside0.mk H
     clear H
     go_wp2
     repeat(go_quiet (fail);try go_wp2)
     go_meet
     case rel=>exact⟨_,(false),(by first|rfl|(simp;done)|(simp [*];done)),H',⟨by have:=HK1.out;first|omega|exact Nat.le_refl _⟩,by repeat(first|exact Drawn0.refl _|apply Drawn0.step)⟩
   case rest=>
    clear HC3
    try clear c1
    try clear p2
    try clear c4
    try clear c4b0
    try clear p2
    obtain⟨kq,x15_2,rfl,HA,HJ2,⟨mc2,rfl⟩⟩:=hcut
    cases kq with
    |zero=>exact absurd HA.out (by simp [anilref06_Before.j1])
    |succ kj2=>
     have H:=HA.out
     clear HA
     simp only [anilref06_Before.j1]at H
     by_cases c5:x15_2=true
     ·subst c5
      have H1:(if 0≤x5_1 then(if x5_1 <(l0.length:Int)then(if x5_1 <(l1.length:Int)then(if (rd l0 x5_1)=(rd l1 x5_1)then(anilref06_Before.l0 kj2 l0 l1 (wrap64 (x5_1+1)))else(some (decide ((rd l0 x5_1) <(rd l1 x5_1)))))else(none))else(none))else(none))=some r:=by rw [if_pos rfl]at H;exact H
      clear H
      have H:=H1
      clear H1
      by_cases c6:0≤x5_1
      ·rw [if_pos c6]at H
       have c6b0:decide (0≤x5_1)=true:=decide_eq_true c6
       clear c6
       by_cases c7:x5_1 <(l0.length:Int)
       ·rw [if_pos c7]at H
        have c7b0:decide (x5_1 <(l0.length:Int))=true:=decide_eq_true c7
        clear c7
        by_cases c8:x5_1 <(l1.length:Int)
        ·rw [if_pos c8]at H
         have c8b0:decide (x5_1 <(l1.length:Int))=true:=decide_eq_true c8
         clear c8
         by_cases c9:(rd l0 x5_1)=(rd l1 x5_1)
         ·rw [if_pos c9]at H
          have c9b0:((rd l0 x5_1)==(rd l1 x5_1))=true:=beq_iff_eq.mpr c9
          have c9b1:((rd l0 x5_1) !=(rd l1 x5_1))=false:=bne_eq_false_iff_eq.mpr c9
          clear c9
          have H':=Aside0.mk H
          clear H
          have p402:0≤(x5_1:Int):=of_decide_eq_true (by first|(with_reducible assumption)|assumption)
          have q402:x5_1 <(l0.length:Int):=of_decide_eq_true (by first|(with_reducible assumption)|assumption)
          obtain⟨ad402,e402,hx402_0⟩:=Kd.at_int HR0.out x5_1 p402 q402
          cases e402
          replace p402:=eq_true p402
          replace q402:=eq_true q402
          have p403:0≤(x5_1:Int):=of_decide_eq_true (by first|(with_reducible assumption)|assumption)
          have q403:x5_1 <(l1.length:Int):=of_decide_eq_true (by first|(with_reducible assumption)|assumption)
          obtain⟨ad403,e403,hx403_0⟩:=Kd.at_int HR1.out x5_1 p403 q403
          cases e403
          replace p403:=eq_true p403
          replace q403:=eq_true q403
          go_wp2
          repeat(go_quiet (fail);try go_wp2)
          go_roundg kj2
          case measure=>have:=HK1.out;have:=HJ2.out;omega
          case rel=>exact⟨(wrap64 (x5_1+1)),(by first|rfl|(simp;done)|(simp [*];done)),H',⟨by have:=HK1.out;have:=HJ2.out;omega⟩,by repeat(first|exact Drawn0.refl _|apply Drawn0.step)⟩
         ·rw [if_neg c9]at H
          have c9b0:((rd l0 x5_1)==(rd l1 x5_1))=false:=beq_eq_false_iff_ne.mpr c9
          have c9b1:((rd l0 x5_1) !=(rd l1 x5_1))=true:=bne_iff_ne.mpr c9
          obtain rfl:=Option.some.inj H
          have p402:0≤(x5_1:Int):=of_decide_eq_true (by first|(with_reducible assumption)|assumption)
          have q402:x5_1 <(l0.length:Int):=of_decide_eq_true (by first|(with_reducible assumption)|assumption)
          obtain⟨ad402,e402,hx402_0⟩:=Kd.at_int HR0.out x5_1 p402 q402
          cases e402
          replace p402:=eq_true p402
          replace q402:=eq_true q402
          have p403:0≤(x5_1:Int):=of_decide_eq_true (by first|(with_reducible assumption)|assumption)
          have q403:x5_1 <(l1.length:Int):=of_decide_eq_true (by first|(with_reducible assumption)|assumption)
          obtain⟨ad403,e403,hx403_0⟩:=Kd.at_int HR1.out x5_1 p403 q403
          cases e403
          replace p403:=eq_true p403
          replace q403:=eq_true q403
          have p404:0≤(x5_1:Int):=of_decide_eq_true (by first|(with_reducible assumption)|assumption)
          have q404:x5_1 <(l0.length:Int):=of_decide_eq_true (by first|(with_reducible assumption)|assumption)
          obtain⟨ad404,e404,hx404_0⟩:=Kd.at_int HR0.out x5_1 p404 q404
          obtain rfl:ad402=ad404:=(by injection e404)
          replace p404:=eq_true p404
          replace q404:=eq_true q404
          have p405:0≤(x5_1:Int):=of_decide_eq_true (by first|(with_reducible assumption)|assumption)
          have q405:x5_1 <(l1.length:Int):=of_decide_eq_true (by first|(with_reducible assumption)|assumption)
          obtain⟨ad405,e405,hx405_0⟩:=Kd.at_int HR1.out x5_1 p405 q405
          obtain rfl:ad403=ad405:=(by injection e405)
          replace p405:=eq_true p405
          replace q405:=eq_true q405
          go_wp2
          repeat(go_quiet (fail);try go_wp2)
          go_ret
          exact⟨by first|rfl|(simp;done)|(simp [*];done),by repeat(first|exact Drawn0.refl _|apply Drawn0.step)⟩
        ·rw [if_neg c8]at H
         exact absurd H (by simp)
       ·rw [if_neg c7]at H
        exact absurd H (by simp)
      ·rw [if_neg c6]at H
       exact absurd H (by simp)
     ·replace c5:=Bool.eq_false_iff.mpr c5
      subst c5
      have H1:(some (decide ((l0.length:Int) <(l1.length:Int))))=some r:=by rw [if_neg (show ¬(false=true)by decide)]at H;exact H
      clear H
      have H:=H1
      clear H1
      obtain rfl:=Option.some.inj H
      go_wp2
      repeat(go_quiet (fail);try go_wp2)
      go_ret
      exact⟨by first|rfl|(simp;done)|(simp [*];done),by repeat(first|exact Drawn0.refl _|apply Drawn0.step)⟩
end Go.Proofs.Ytjifalohjlihaaa.Q
end
section
namespace Go.Proofs.Ytjifalohjlihaaa.Q
open Go.RowKit Go.Proofs.YtjifalohjlihaaaW.PrintWords Go.Proofs.YtjifalohjlihaaaW.PrintLast Go.Proofs.YtjifalohjlihaaaW.PrintMore
attribute [local go_sem] max2_int min2_int max_two min_two max_three min_three max_four min_four
set_option linter.unusedVariables false
set_option linter.unusedSimpArgs false
def anillaw06_word.f (l0:List Int) (a1:Int):Option (Int):=if (l0.length:Int)=0 then(some 0)else(if 0≤(Int.tmod a1 (l0.length:Int))then(if (Int.tmod a1 (l0.length:Int)) <(l0.length:Int)then(some (wrap64 (rd l0 (Int.tmod a1 (l0.length:Int)))))else(none))else(none))
set_option maxHeartbeats 8000000 in
set_option maxRecDepth 100000 in
theorem anillaw06_word.calls (A0:Option Addr) (c0:Nat) (l0:List Int) (a1:Int) (r:Int) (w:World) (hr0:Kd.C (Kd.int .u16) w A0 l0.length l0) (hc0:l0.length≤c0) (h:anillaw06_word.f l0 a1=some r):
  Calls Try.prog 91 #[.slice A0 l0.length c0,.int .i64 a1] w fun e w'=>e= .returned (.int .i64 r)∧Drawn0 w w':=by
 have HR0:=Aside0.mk hr0
 have HC0:=Aside0.mk hc0
 clear hr0 hc0
 have H:(if (l0.length:Int)=0 then(some 0)else(if 0≤(Int.tmod a1 (l0.length:Int))then(if (Int.tmod a1 (l0.length:Int)) <(l0.length:Int)then(some (wrap64 (rd l0 (Int.tmod a1 (l0.length:Int)))))else(none))else(none)))=some r:=h
 clear h
 by_cases c3:(l0.length:Int)=0
 ·rw [if_pos c3]at H
  have c3b0:((l0.length:Int)==0)=true:=beq_iff_eq.mpr c3
  have c3b1:((l0.length:Int) !=0)=false:=bne_eq_false_iff_eq.mpr c3
  clear c3
  obtain rfl:=Option.some.inj H
  go_enter Try.func91,Try.ntmps91
  go_wp2
  go_ret
  exact⟨by first|rfl|(simp;done)|(simp [*];done),by repeat(first|exact Drawn0.refl _|apply Drawn0.step)⟩
 ·rw [if_neg c3]at H
  have c3b0:((l0.length:Int)==0)=false:=beq_eq_false_iff_ne.mpr c3
  have c3b1:((l0.length:Int) !=0)=true:=bne_iff_ne.mpr c3
  have c3b2:¬(l0= []):=fun h_=>c3 (by rw [h_];rfl)
  obtain⟨ji4,hji4⟩:∃j_:Int,(Int.tmod a1 (l0.length:Int))=j_:=⟨_,rfl⟩
  replace H:(if 0≤(ji4)then(if (ji4) <(l0.length:Int)then(some (wrap64 (rd l0 (ji4))))else(none))else(none))=some r:=by first|(rw [hji4]at H;exact H)|(simp only [hji4]at H ⊢;exact H)
  by_cases c5:0≤(ji4)
  ·rw [if_pos c5]at H
   have c5b0:decide (0≤(ji4))=true:=decide_eq_true c5
   clear c5
   by_cases c6:(ji4) <(l0.length:Int)
   ·rw [if_pos c6]at H
    have c6b0:decide ((ji4) <(l0.length:Int))=true:=decide_eq_true c6
    clear c6
    obtain rfl:=Option.some.inj H
    have p481:0≤((ji4):Int):=of_decide_eq_true (by first|(with_reducible assumption)|assumption)
    have q481:(ji4) <(l0.length:Int):=of_decide_eq_true (by first|(with_reducible assumption)|assumption)
    obtain⟨ad481,e481,hx481_0⟩:=Kd.at_int HR0.out (ji4) p481 q481
    cases e481
    replace p481:=eq_true p481
    replace q481:=eq_true q481
    go_enter Try.func91,Try.ntmps91
    go_wp2
    go_ret
    exact⟨by first|rfl|(simp;done)|(simp only [←hji4]<;>(first|rfl|simp))|(simp [*];done),by repeat(first|exact Drawn0.refl _|apply Drawn0.step)⟩
   ·rw [if_neg c6]at H
    exact absurd H (by simp)
  ·rw [if_neg c5]at H
   exact absurd H (by simp)
end Go.Proofs.Ytjifalohjlihaaa.Q
end
section
namespace Go.Proofs.Ytjifalohjlihaaa.Q
open Go.RowKit Go.Proofs.YtjifalohjlihaaaW.PrintWords Go.Proofs.YtjifalohjlihaaaW.PrintLast Go.Proofs.YtjifalohjlihaaaW.PrintMore
attribute [local go_sem] max2_int min2_int max_two min_two max_three min_three max_four min_four
set_option linter.unusedVariables false
set_option linter.unusedSimpArgs false
def anillaw06_many.l0:Nat→List Int→Int→Int→Int→Option (Int)
 |0,_,_,_,_=>none
 |k+1,x0,x1,x5,x6=>if x6 <(x0.length:Int)then(if 0≤x6 then(if (rd x0 x6)=x1 then(anillaw06_many.l0 k x0 x1 (wrap64 (x5+1)) (wrap64 (x6+1)))else(anillaw06_many.l0 k x0 x1 x5 (wrap64 (x6+1))))else(none))else(some x5)
def anillaw06_many.f (k:Nat) (l0:List Int) (a1:Int):Option (Int):=anillaw06_many.l0 k l0 a1 0 0
set_option maxHeartbeats 8000000 in
set_option maxRecDepth 100000 in
theorem anillaw06_many.calls (k:Nat) (A0:Option Addr) (c0:Nat) (l0:List Int) (a1:Int) (r:Int) (w:World) (hr0:Kd.C (Kd.int .i64) w A0 l0.length l0) (hc0:l0.length≤c0) (h:anillaw06_many.f k l0 a1=some r):
  Calls Try.prog 92 #[.slice A0 l0.length c0,.int .i64 a1] w fun e w'=>e= .returned (.int .i64 r)∧Drawn0 w w':=by
 have HR0:=Aside0.mk hr0
 have HC0:=Aside0.mk hc0
 clear hr0 hc0
 have H:(anillaw06_many.l0 k l0 a1 0 0)=some r:=h
 clear h
 have H':=Aside0.mk H
 clear H
 go_enter Try.func92,Try.ntmps92
 go_wp2
 go_loopg [5,6] k (fun kq v5 v6 w'=>∃(x5_1:Int) (x6_1:Int),v5= .int .i64 x5_1∧v6= .int .i64 x6_1∧Aside0 (anillaw06_many.l0 kq l0 a1 x5_1 x6_1=some r)∧Aside0 (kq≤k)∧Drawn0 w w')
 case atStart=>exact⟨(0),(0),(by first|rfl|(simp;done)|(simp [*];done)),(by first|rfl|(simp;done)|(simp [*];done)),H',⟨Nat.le_refl _⟩,by repeat(first|exact Drawn0.refl _|apply Drawn0.step)⟩
 case round=>
  clear H'
  try clear p2
  obtain⟨x5_1,x6_1,rfl,rfl,HA,HK1,⟨m1,rfl⟩⟩:=hrel
  cases gk with
  |zero=>exact absurd HA.out (by simp [anillaw06_many.l0])
  |succ k1=>
   have H:=HA.out
   clear HA
   simp only [anillaw06_many.l0]at H
   by_cases c3:x6_1 <(l0.length:Int)
   ·rw [if_pos c3]at H
    have c3b0:decide (x6_1 <(l0.length:Int))=true:=decide_eq_true c3
    clear c3
    by_cases c4:0≤x6_1
    ·rw [if_pos c4]at H
     have c4b0:decide (0≤x6_1)=true:=decide_eq_true c4
     clear c4
     by_cases c5:(rd l0 x6_1)=a1
     ·rw [if_pos c5]at H
      have c5b0:((rd l0 x6_1)==a1)=true:=beq_iff_eq.mpr c5
      have c5b1:((rd l0 x6_1) !=a1)=false:=bne_eq_false_iff_eq.mpr c5
      clear c5
      have H':=Aside0.mk H
      clear H
      have p482:0≤(x6_1:Int):=of_decide_eq_true (by first|(with_reducible assumption)|assumption)
      have q482:x6_1 <(l0.length:Int):=of_decide_eq_true (by first|(with_reducible assumption)|assumption)
      obtain⟨ad482,e482,hx482_0⟩:=Kd.at_int HR0.out x6_1 p482 q482
      cases e482
      replace p482:=eq_true p482
      replace q482:=eq_true q482
      go_wp2
      go_roundg k1
      case measure=>have:=HK1.out;omega
      case rel=>exact⟨(wrap64 (x5_1+1)),(wrap64 (x6_1+1)),(by first|rfl|(simp;done)|(simp [*];done)),(by first|rfl|(simp;done)|(simp [*];done)),H',⟨by have:=HK1.out;omega⟩,by repeat(first|exact Drawn0.refl _|apply Drawn0.step)⟩
     ·rw [if_neg c5]at H
      have c5b0:((rd l0 x6_1)==a1)=false:=beq_eq_false_iff_ne.mpr c5
      have c5b1:((rd l0 x6_1) !=a1)=true:=bne_iff_ne.mpr c5
      have H':=Aside0.mk H
      clear H
      have p482:0≤(x6_1:Int):=of_decide_eq_true (by first|(with_reducible assumption)|assumption)
      have q482:x6_1 <(l0.length:Int):=of_decide_eq_true (by first|(with_reducible assumption)|assumption)
      obtain⟨ad482,e482,hx482_0⟩:=Kd.at_int HR0.out x6_1 p482 q482
      cases e482
      replace p482:=eq_true p482
      replace q482:=eq_true q482
      go_wp2
      go_roundg k1
      case measure=>have:=HK1.out;omega
      case rel=>exact⟨(x5_1),(wrap64 (x6_1+1)),(by first|rfl|(simp;done)|(simp [*];done)),(by first|rfl|(simp;done)|(simp [*];done)),H',⟨by have:=HK1.out;omega⟩,by repeat(first|exact Drawn0.refl _|apply Drawn0.step)⟩
    ·rw [if_neg c4]at H
     exact absurd H (by simp)
   ·rw [if_neg c3]at H
    have c3b0:decide (x6_1 <(l0.length:Int))=false:=decide_eq_false c3
    clear c3
    obtain rfl:=Option.some.inj H
    go_wp2
    go_ret
    exact⟨by first|rfl|(simp;done)|(simp [*];done),by repeat(first|exact Drawn0.refl _|apply Drawn0.step)⟩
end Go.Proofs.Ytjifalohjlihaaa.Q
end
section
namespace Go.Proofs.Ytjifalohjlihaaa.Q
open Go.RowKit Go.Proofs.YtjifalohjlihaaaW.PrintWords Go.Proofs.YtjifalohjlihaaaW.PrintLast Go.Proofs.YtjifalohjlihaaaW.PrintMore
attribute [local go_sem] max2_int min2_int max_two min_two max_three min_three max_four min_four
set_option linter.unusedVariables false
set_option linter.unusedSimpArgs false
mutual
def anillaw06_Placed.l0:Nat→List Int→List Int→Int→Int→List (S52)→List (S89)→List (S54)→List Int→List (S108)→Option (List Int)
 |0,_,_,_,_,_,_,_,_,_=>none
 |k+1,x1,x5,x6,x484000,x484001,x484002,x484003,x484004,x484005=>if x6 <(x484003.length:Int)then((anillaw06_word.f x1 x6).bind fun t484=>(if (x484002.length:Int)=0 then(none)else(anillaw06_Placed.l1 k x1 x5 x6 (Int.tmod t484 (x484002.length:Int)) 0 x484000 x484001 x484002 x484003 x484004 x484005)))else(some x5)
def anillaw06_Placed.l1:Nat→List Int→List Int→Int→Int→Int→Int→List (S52)→List (S89)→List (S54)→List Int→List (S108)→Option (List Int)
 |0,_,_,_,_,_,_,_,_,_,_,_=>none
 |k+1,x1,x5,x6,x7,x8,x484000,x484001,x484002,x484003,x484004,x484005=>if x8 <(x484002.length:Int)then((anillaw06_many.f k x5 x7).bind fun t485=>(if 0≤x7 then(if x7 <(x484002.length:Int)then(if t485≥((rd_T89 x484002 x7).f0)then(if (x484002.length:Int)=0 then(none)else(anillaw06_Placed.l1 k x1 x5 x6 (Int.tmod (wrap64 (x7+1)) (x484002.length:Int)) (wrap64 (x8+1)) x484000 x484001 x484002 x484003 x484004 x484005))else(if x5.length < 17592186044416 then(anillaw06_Placed.l0 k x1 (x5++ [x7]) (wrap64 (x6+1)) x484000 x484001 x484002 x484003 x484004 x484005)else(none)))else(none))else(none)))else(if x5.length < 17592186044416 then(anillaw06_Placed.l0 k x1 (x5++ [x7]) (wrap64 (x6+1)) x484000 x484001 x484002 x484003 x484004 x484005)else(none))
end
def anillaw06_Placed.f (k:Nat) (a0_0:Int) (l0_1:List (S52)) (l0_2:List (S89)) (l0_3:List (S54)) (l0_4:List Int) (l0_5:List (S108)) (l1:List Int):Option (List Int):=anillaw06_Placed.l0 k l1 ([]:List Int) 0 a0_0 l0_1 l0_2 l0_3 l0_4 l0_5
set_option maxHeartbeats 8000000 in
set_option maxRecDepth 100000 in
theorem anillaw06_Placed.calls (k:Nat) (a0_0:Int) (A0_1:Option Addr) (c0_1:Nat) (l0_1:List (S52)) (A0_2:Option Addr) (c0_2:Nat) (l0_2:List (S89)) (A0_3:Option Addr) (c0_3:Nat) (l0_3:List (S54)) (A0_4:Option Addr) (c0_4:Nat) (l0_4:List Int) (A0_5:Option Addr) (c0_5:Nat) (l0_5:List (S108)) (A1:Option Addr) (c1:Nat) (l1:List Int) (r:List Int) (w:World) (hr0_1:Kd.C k52 w A0_1 l0_1.length l0_1) (hc0_1:l0_1.length≤c0_1) (hr0_2:Kd.C k89 w A0_2 l0_2.length l0_2) (hc0_2:l0_2.length≤c0_2) (hr0_3:Kd.C k54 w A0_3 l0_3.length l0_3) (hc0_3:l0_3.length≤c0_3) (hr0_4:Kd.C (Kd.int .i64) w A0_4 l0_4.length l0_4) (hc0_4:l0_4.length≤c0_4) (hr0_5:Kd.C k108 w A0_5 l0_5.length l0_5) (hc0_5:l0_5.length≤c0_5) (hr1:Kd.C (Kd.int .u16) w A1 l1.length l1) (hc1:l1.length≤c1) (h:anillaw06_Placed.f k a0_0 l0_1 l0_2 l0_3 l0_4 l0_5 l1=some r):
  Calls Try.prog 44 #[.agg #[.int .i64 a0_0,.slice A0_1 l0_1.length c0_1,.slice A0_2 l0_2.length c0_2,.slice A0_3 l0_3.length c0_3,.slice A0_4 l0_4.length c0_4,.slice A0_5 l0_5.length c0_5],.slice A1 l1.length c1] w fun e w'=>∃v0_:Value,e= .returned (v0_)∧Kd.R (Kd.int .i64) 3 w' w.heap.size (fun _=>True) v0_ r∧Below w.heap.size w w':=by
 have hu28:=Try.underlying28
 have HR0_1:=Aside0.mk hr0_1
 have HC0_1:=Aside0.mk hc0_1
 clear hr0_1 hc0_1
 have HR0_2:=Aside0.mk hr0_2
 have HC0_2:=Aside0.mk hc0_2
 clear hr0_2 hc0_2
 have HR0_3:=Aside0.mk hr0_3
 have HC0_3:=Aside0.mk hc0_3
 clear hr0_3 hc0_3
 have HR0_4:=Aside0.mk hr0_4
 have HC0_4:=Aside0.mk hc0_4
 clear hr0_4 hc0_4
 have HR0_5:=Aside0.mk hr0_5
 have HC0_5:=Aside0.mk hc0_5
 clear hr0_5 hc0_5
 have HR1:=Aside0.mk hr1
 have HC1:=Aside0.mk hc1
 clear hr1 hc1
 have HB:=Aside0.mk (Below.refl w.heap.size w)
 have H:(anillaw06_Placed.l0 k l1 ([]:List Int) 0 a0_0 l0_1 l0_2 l0_3 l0_4 l0_5)=some r:=h
 clear h
 have H':=Aside0.mk H
 clear H
 go_enter Try.func44,Try.ntmps44
 go_wp2_with (first|((with_reducible refine gate_dst (N:=2) rfl ?_);refine box_event ?hg (N:=2) ?hd (cs:=#[.int .i64 a0_0,.slice A0_1 l0_1.length c0_1,.slice A0_2 l0_2.length c0_2,.slice A0_3 l0_3.length c0_3,.slice A0_4 l0_4.length c0_4,.slice A0_5 l0_5.length c0_5]) (t:=28) ?hr ?_;(case hd=>rfl);(case hg=>rfl);(case hr=>first|(go_simp;done)|(go_simp;rfl));intro gb483 hg w3 hbox hb;have n0_:=Aside0.mk (below_step (by repeat(first|(with_reducible first|exact HB.out|apply below_alloc|apply pw_below_drewN|apply below_drew1)|exact HB.out)) hb);have n1_:=Aside0.mk (hbox);have n2_:=Aside0.mk ((by rw [hg];exact(below_size (by repeat(first|(with_reducible first|exact HB.out|apply below_alloc|apply pw_below_drewN|apply below_drew1)|exact HB.out))):w.heap.size≤gb483));have n3_:=Aside0.mk ((by rw [hg];exact(below_size (by repeat(first|(with_reducible first|exact HB.out|apply below_alloc|apply pw_below_drewN|apply below_drew1)|exact HB.out))):w.heap.size≤gb483));clear HB;have HB:=n0_;have BK483:=n1_;have GW483:=n2_;have GE483:=n3_;clear n0_ n1_ n2_ n3_;clear hb hbox hg))
 repeat(go_quiet (first|((with_reducible refine gate_dst (N:=2) rfl ?_);refine box_event ?hg (N:=2) ?hd (cs:=#[.int .i64 a0_0,.slice A0_1 l0_1.length c0_1,.slice A0_2 l0_2.length c0_2,.slice A0_3 l0_3.length c0_3,.slice A0_4 l0_4.length c0_4,.slice A0_5 l0_5.length c0_5]) (t:=28) ?hr ?_;(case hd=>rfl);(case hg=>rfl);(case hr=>first|(go_simp;done)|(go_simp;rfl));intro gb483 hg w3 hbox hb;have n0_:=Aside0.mk (below_step (by repeat(first|(with_reducible first|exact HB.out|apply below_alloc|apply pw_below_drewN|apply below_drew1)|exact HB.out)) hb);have n1_:=Aside0.mk (hbox);have n2_:=Aside0.mk ((by rw [hg];exact(below_size (by repeat(first|(with_reducible first|exact HB.out|apply below_alloc|apply pw_below_drewN|apply below_drew1)|exact HB.out))):w.heap.size≤gb483));have n3_:=Aside0.mk ((by rw [hg];exact(below_size (by repeat(first|(with_reducible first|exact HB.out|apply below_alloc|apply pw_below_drewN|apply below_drew1)|exact HB.out))):w.heap.size≤gb483));clear HB;have HB:=n0_;have BK483:=n1_;have GW483:=n2_;have GE483:=n3_;clear n0_ n1_ n2_ n3_;clear hb hbox hg));try go_wp2_with (first|((with_reducible refine gate_dst (N:=2) rfl ?_);refine box_event ?hg (N:=2) ?hd (cs:=#[.int .i64 a0_0,.slice A0_1 l0_1.length c0_1,.slice A0_2 l0_2.length c0_2,.slice A0_3 l0_3.length c0_3,.slice A0_4 l0_4.length c0_4,.slice A0_5 l0_5.length c0_5]) (t:=28) ?hr ?_;(case hd=>rfl);(case hg=>rfl);(case hr=>first|(go_simp;done)|(go_simp;rfl));intro gb483 hg w3 hbox hb;have n0_:=Aside0.mk (below_step (by repeat(first|(with_reducible first|exact HB.out|apply below_alloc|apply pw_below_drewN|apply below_drew1)|exact HB.out)) hb);have n1_:=Aside0.mk (hbox);have n2_:=Aside0.mk ((by rw [hg];exact(below_size (by repeat(first|(with_reducible first|exact HB.out|apply below_alloc|apply pw_below_drewN|apply below_drew1)|exact HB.out))):w.heap.size≤gb483));have n3_:=Aside0.mk ((by rw [hg];exact(below_size (by repeat(first|(with_reducible first|exact HB.out|apply below_alloc|apply pw_below_drewN|apply below_drew1)|exact HB.out))):w.heap.size≤gb483));clear HB;have HB:=n0_;have BK483:=n1_;have GW483:=n2_;have GE483:=n3_;clear n0_ n1_ n2_ n3_;clear hb hbox hg)))
 go_loopg [5,6] k (fun kq v5 v6 w'=>∃(x5_1:List Int) (x6_1:Int),v6= .int .i64 x6_1∧Aside0 (anillaw06_Placed.l0 kq l1 x5_1 x6_1 a0_0 l0_1 l0_2 l0_3 l0_4 l0_5=some r)∧Aside0 (kq≤k)∧Aside0 (Kd.R (Kd.int .i64) 3 w' w.heap.size (fun _=>True) v5 x5_1)∧Aside0 (w'.heap[gb483]? =some (.cells #[.int .i64 a0_0,(.slice A0_1 l0_1.length c0_1),(.slice A0_2 l0_2.length c0_2),(.slice A0_3 l0_3.length c0_3),(.slice A0_4 l0_4.length c0_4),(.slice A0_5 l0_5.length c0_5)] 28 (0,0)))∧Aside0 (Below w.heap.size w w'))
 case atStart=>exact⟨(([]:List Int)),(0),(by first|rfl|(simp;done)|(simp [*];done)),H',⟨Nat.le_refl _⟩,⟨by first|exact Kd.R_nil _ _ _ _ _|exact Kd.N_nil _ _ _ _ _|exact Kd.V_nil _ _ _ _ _|exact Kd.Q_nil _ _ _ _ _|exact Kd.S_nil _ _ _ _ _⟩,⟨by(with_reducible repeat(first|refine blk_drewN ?_ _|refine blk_drew ?_|refine blk_alloc ?_ _));exact BK483.out⟩,⟨by repeat(first|(with_reducible first|exact HB.out|apply below_alloc|apply pw_below_drewN|apply below_drew1|refine below_set ?_ GE483.out)|exact HB.out)⟩⟩
 case round=>
  clear H'
  try clear c1
  try clear p2
  obtain⟨x5_1,x6_1,rfl,HA,HK1,HO_5,BK483,HB⟩:=hrel
  cases gk with
  |zero=>exact absurd HA.out (by simp [anillaw06_Placed.l0])
  |succ k1=>
   have H:=HA.out
   clear HA
   simp only [anillaw06_Placed.l0]at H
   by_cases c4:x6_1 <(l0_3.length:Int)
   ·rw [if_pos c4]at H
    have c4b0:decide (x6_1 <(l0_3.length:Int))=true:=decide_eq_true c4
    clear c4
    replace H:=Option.bind_eq_some_iff.mp H
    obtain⟨t484,A50,H⟩:=H
    replace H:(if (l0_2.length:Int)=0 then(none)else(anillaw06_Placed.l1 k1 l1 x5_1 x6_1 (Int.tmod t484 (l0_2.length:Int)) 0 a0_0 l0_1 l0_2 l0_3 l0_4 l0_5))=some r:=H
    have A5:=Aside0.mk A50
    clear A50
    by_cases c6:(l0_2.length:Int)=0
    ·rw [if_pos c6]at H
     exact absurd H (by simp)
    ·rw [if_neg c6]at H
     have c6b0:((l0_2.length:Int)==0)=false:=beq_eq_false_iff_ne.mpr c6
     have c6b1:((l0_2.length:Int) !=0)=true:=bne_iff_ne.mpr c6
     have c6b2:¬(l0_2= []):=fun h_=>c6 (by rw [h_];rfl)
     have H':=Aside0.mk H
     clear H
     have hcz7_0:wr.cell? ⟨gb483,0,none⟩=some (.int .i64 a0_0):=(blk_cell BK483.out 0).trans rfl
     have hcz7_1:wr.cell? ⟨gb483,1,none⟩=some (.slice A0_1 l0_1.length c0_1):=(blk_cell BK483.out 1).trans rfl
     have hcz7_2:wr.cell? ⟨gb483,2,none⟩=some (.slice A0_2 l0_2.length c0_2):=(blk_cell BK483.out 2).trans rfl
     have hcz7_3:wr.cell? ⟨gb483,3,none⟩=some (.slice A0_3 l0_3.length c0_3):=(blk_cell BK483.out 3).trans rfl
     have hcz7_4:wr.cell? ⟨gb483,4,none⟩=some (.slice A0_4 l0_4.length c0_4):=(blk_cell BK483.out 4).trans rfl
     have hcz7_5:wr.cell? ⟨gb483,5,none⟩=some (.slice A0_5 l0_5.length c0_5):=(blk_cell BK483.out 5).trans rfl
     have hfz7_0:=blk_frozen BK483.out 0
     have hfz7_1:=blk_frozen BK483.out 1
     have hfz7_2:=blk_frozen BK483.out 2
     have hfz7_3:=blk_frozen BK483.out 3
     have hfz7_4:=blk_frozen BK483.out 4
     have hfz7_5:=blk_frozen BK483.out 5
     go_wp2_with (first|(go_at_call 91;(with_reducible refine(anillaw06_word.calls _ _ l1 x6_1 t484 _ ?side1 ?side2 A5.out).mono ?_);(case side1=>repeat(first|exact(Kd.C_below HR1.out HB.out)|(with_reducible refine Kd.C_alloc ?_ _)|(with_reducible refine Kd.C_drewN ?_ _)|(with_reducible refine Kd.C_drew ?_)));(case side2=>exact HC1.out);rintro e w' ⟨rfl,⟨nd,rfl⟩⟩;(try first|exact⟨rfl,_,World.drewN_drewN _ _ _⟩|exact⟨rfl,_,Eq.trans (World.drewN_drewN _ _ _) (congrArg (World.drewN _) (Nat.add_assoc _ _ _))⟩)))
     repeat(go_quiet (first|(go_at_call 91;(with_reducible refine(anillaw06_word.calls _ _ l1 x6_1 t484 _ ?side1 ?side2 A5.out).mono ?_);(case side1=>repeat(first|exact(Kd.C_below HR1.out HB.out)|(with_reducible refine Kd.C_alloc ?_ _)|(with_reducible refine Kd.C_drewN ?_ _)|(with_reducible refine Kd.C_drew ?_)));(case side2=>exact HC1.out);rintro e w' ⟨rfl,⟨nd,rfl⟩⟩;(try first|exact⟨rfl,_,World.drewN_drewN _ _ _⟩|exact⟨rfl,_,Eq.trans (World.drewN_drewN _ _ _) (congrArg (World.drewN _) (Nat.add_assoc _ _ _))⟩)));try go_wp2_with (first|(go_at_call 91;(with_reducible refine(anillaw06_word.calls _ _ l1 x6_1 t484 _ ?side1 ?side2 A5.out).mono ?_);(case side1=>repeat(first|exact(Kd.C_below HR1.out HB.out)|(with_reducible refine Kd.C_alloc ?_ _)|(with_reducible refine Kd.C_drewN ?_ _)|(with_reducible refine Kd.C_drew ?_)));(case side2=>exact HC1.out);rintro e w' ⟨rfl,⟨nd,rfl⟩⟩;(try first|exact⟨rfl,_,World.drewN_drewN _ _ _⟩|exact⟨rfl,_,Eq.trans (World.drewN_drewN _ _ _) (congrArg (World.drewN _) (Nat.add_assoc _ _ _))⟩))))
     go_loopg [7,8] k1 (fun kq v7 v8 w'=>∃(x7_2:Int) (x8_2:Int),v7= .int .i64 x7_2∧v8= .int .i64 x8_2∧Aside0 (anillaw06_Placed.l1 kq l1 x5_1 x6_1 x7_2 x8_2 a0_0 l0_1 l0_2 l0_3 l0_4 l0_5=some r)∧Aside0 (kq≤k1)∧Aside0 (Kd.R (Kd.int .i64) 3 w' w.heap.size (fun _=>True) u5 x5_1)∧Aside0 (w'.heap[gb483]? =some (.cells #[.int .i64 a0_0,(.slice A0_1 l0_1.length c0_1),(.slice A0_2 l0_2.length c0_2),(.slice A0_3 l0_3.length c0_3),(.slice A0_4 l0_4.length c0_4),(.slice A0_5 l0_5.length c0_5)] 28 (0,0)))∧Aside0 (Below w.heap.size w w'))
     case atStart=>exact⟨(Int.tmod t484 (l0_2.length:Int)),(0),(by first|rfl|(simp;done)|(simp [*];done)),(by first|rfl|(simp;done)|(simp [*];done)),H',⟨Nat.le_refl _⟩,⟨by(with_reducible repeat(first|apply Kd.R_alloc|apply Kd.R_drewN|apply Kd.R_drew));exact HO_5.out⟩,⟨by(with_reducible repeat(first|refine blk_drewN ?_ _|refine blk_drew ?_|refine blk_alloc ?_ _));exact BK483.out⟩,⟨by repeat(first|(with_reducible first|exact HB.out|apply below_alloc|apply pw_below_drewN|apply below_drew1|refine below_set ?_ GE483.out)|exact HB.out)⟩⟩
     case round=>
      clear H'
      try clear c1
      try clear p2
      try clear c4
      try clear c4b0
      try clear c6
      try clear c6b0
      try clear c6b1
      try clear c6b2
      try clear hcz7_0
      try clear hcz7_1
      try clear hcz7_2
      try clear hcz7_3
      try clear hcz7_4
      try clear hcz7_5
      try clear hfz7_0
      try clear hfz7_1
      try clear hfz7_2
      try clear hfz7_3
      try clear hfz7_4
      try clear hfz7_5
      try clear p2
      obtain⟨x7_2,x8_2,rfl,rfl,HA,HK2,HO_5,BK483,HB⟩:=hrel
      cases gk with
      |zero=>exact absurd HA.out (by simp [anillaw06_Placed.l1])
      |succ k2=>
       have H:=HA.out
       clear HA
       simp only [anillaw06_Placed.l1]at H
       by_cases c8:x8_2 <(l0_2.length:Int)
       ·rw [if_pos c8]at H
        have c8b0:decide (x8_2 <(l0_2.length:Int))=true:=decide_eq_true c8
        clear c8
        replace H:=Option.bind_eq_some_iff.mp H
        obtain⟨t485,A90,H⟩:=H
        replace H:(if 0≤x7_2 then(if x7_2 <(l0_2.length:Int)then(if t485≥((rd_T89 l0_2 x7_2).f0)then(if (l0_2.length:Int)=0 then(none)else(anillaw06_Placed.l1 k2 l1 x5_1 x6_1 (Int.tmod (wrap64 (x7_2+1)) (l0_2.length:Int)) (wrap64 (x8_2+1)) a0_0 l0_1 l0_2 l0_3 l0_4 l0_5))else(if x5_1.length < 17592186044416 then(anillaw06_Placed.l0 k2 l1 (x5_1++ [x7_2]) (wrap64 (x6_1+1)) a0_0 l0_1 l0_2 l0_3 l0_4 l0_5)else(none)))else(none))else(none))=some r:=H
        have A9:=Aside0.mk A90
        clear A90
        by_cases c10:0≤x7_2
        ·rw [if_pos c10]at H
         have c10b0:decide (0≤x7_2)=true:=decide_eq_true c10
         clear c10
         by_cases c11:x7_2 <(l0_2.length:Int)
         ·rw [if_pos c11]at H
          have c11b0:decide (x7_2 <(l0_2.length:Int))=true:=decide_eq_true c11
          clear c11
          by_cases c12:t485≥((rd_T89 l0_2 x7_2).f0)
          ·rw [if_pos c12]at H
           have c12b0:decide (((rd_T89 l0_2 x7_2).f0)≤t485)=true:=decide_eq_true c12
           clear c12
           by_cases c13:(l0_2.length:Int)=0
           ·rw [if_pos c13]at H
            exact absurd H (by simp)
           ·rw [if_neg c13]at H
            have c13b0:((l0_2.length:Int)==0)=false:=beq_eq_false_iff_ne.mpr c13
            have c13b1:((l0_2.length:Int) !=0)=true:=bne_iff_ne.mpr c13
            have c13b2:¬(l0_2= []):=fun h_=>c13 (by rw [h_];rfl)
            have H':=Aside0.mk H
            clear H
            have hcz14_0:wr.cell? ⟨gb483,0,none⟩=some (.int .i64 a0_0):=(blk_cell BK483.out 0).trans rfl
            have hcz14_1:wr.cell? ⟨gb483,1,none⟩=some (.slice A0_1 l0_1.length c0_1):=(blk_cell BK483.out 1).trans rfl
            have hcz14_2:wr.cell? ⟨gb483,2,none⟩=some (.slice A0_2 l0_2.length c0_2):=(blk_cell BK483.out 2).trans rfl
            have hcz14_3:wr.cell? ⟨gb483,3,none⟩=some (.slice A0_3 l0_3.length c0_3):=(blk_cell BK483.out 3).trans rfl
            have hcz14_4:wr.cell? ⟨gb483,4,none⟩=some (.slice A0_4 l0_4.length c0_4):=(blk_cell BK483.out 4).trans rfl
            have hcz14_5:wr.cell? ⟨gb483,5,none⟩=some (.slice A0_5 l0_5.length c0_5):=(blk_cell BK483.out 5).trans rfl
            have hfz14_0:=blk_frozen BK483.out 0
            have hfz14_1:=blk_frozen BK483.out 1
            have hfz14_2:=blk_frozen BK483.out 2
            have hfz14_3:=blk_frozen BK483.out 3
            have hfz14_4:=blk_frozen BK483.out 4
            have hfz14_5:=blk_frozen BK483.out 5
            obtain⟨Ao15,co15,eo15⟩:=Kd.R_slice HO_5.out
            subst eo15
            go_wp2_with (first|(go_at_call 92;(with_reducible refine(anillaw06_many.calls k2 _ _ x5_1 x7_2 t485 _ ?side1 ?side2 A9.out).mono ?_);(case side1=>repeat(first|exact(Kd.R_reads' HO_5.out).2.2|(with_reducible refine Kd.C_alloc ?_ _)|(with_reducible refine Kd.C_drewN ?_ _)|(with_reducible refine Kd.C_drew ?_)));(case side2=>exact(Kd.R_reads' HO_5.out).2.1);rintro e w' ⟨rfl,⟨nd,rfl⟩⟩;(try first|exact⟨rfl,_,World.drewN_drewN _ _ _⟩|exact⟨rfl,_,Eq.trans (World.drewN_drewN _ _ _) (congrArg (World.drewN _) (Nat.add_assoc _ _ _))⟩);have p486:0≤(x7_2:Int):=of_decide_eq_true (by first|(with_reducible assumption)|assumption);have q486:x7_2 <(l0_2.length:Int):=of_decide_eq_true (by first|(with_reducible assumption)|assumption);obtain⟨ad486,e486,hx486_0,hx486_1⟩:=at_T89 HR0_2.out x7_2 p486 q486;cases e486;replace hx486_0:=(HB.out.cell (World.block_lt_of_cell? w _ hx486_0)).trans hx486_0;replace hx486_1:=(HB.out.cell (World.block_lt_of_cell? w _ hx486_1)).trans hx486_1;replace p486:=eq_true p486;replace q486:=eq_true q486))
            repeat(go_quiet (first|(go_at_call 92;(with_reducible refine(anillaw06_many.calls k2 _ _ x5_1 x7_2 t485 _ ?side1 ?side2 A9.out).mono ?_);(case side1=>repeat(first|exact(Kd.R_reads' HO_5.out).2.2|(with_reducible refine Kd.C_alloc ?_ _)|(with_reducible refine Kd.C_drewN ?_ _)|(with_reducible refine Kd.C_drew ?_)));(case side2=>exact(Kd.R_reads' HO_5.out).2.1);rintro e w' ⟨rfl,⟨nd,rfl⟩⟩;(try first|exact⟨rfl,_,World.drewN_drewN _ _ _⟩|exact⟨rfl,_,Eq.trans (World.drewN_drewN _ _ _) (congrArg (World.drewN _) (Nat.add_assoc _ _ _))⟩);have p486:0≤(x7_2:Int):=of_decide_eq_true (by first|(with_reducible assumption)|assumption);have q486:x7_2 <(l0_2.length:Int):=of_decide_eq_true (by first|(with_reducible assumption)|assumption);obtain⟨ad486,e486,hx486_0,hx486_1⟩:=at_T89 HR0_2.out x7_2 p486 q486;cases e486;replace hx486_0:=(HB.out.cell (World.block_lt_of_cell? w _ hx486_0)).trans hx486_0;replace hx486_1:=(HB.out.cell (World.block_lt_of_cell? w _ hx486_1)).trans hx486_1;replace p486:=eq_true p486;replace q486:=eq_true q486));try go_wp2_with (first|(go_at_call 92;(with_reducible refine(anillaw06_many.calls k2 _ _ x5_1 x7_2 t485 _ ?side1 ?side2 A9.out).mono ?_);(case side1=>repeat(first|exact(Kd.R_reads' HO_5.out).2.2|(with_reducible refine Kd.C_alloc ?_ _)|(with_reducible refine Kd.C_drewN ?_ _)|(with_reducible refine Kd.C_drew ?_)));(case side2=>exact(Kd.R_reads' HO_5.out).2.1);rintro e w' ⟨rfl,⟨nd,rfl⟩⟩;(try first|exact⟨rfl,_,World.drewN_drewN _ _ _⟩|exact⟨rfl,_,Eq.trans (World.drewN_drewN _ _ _) (congrArg (World.drewN _) (Nat.add_assoc _ _ _))⟩);have p486:0≤(x7_2:Int):=of_decide_eq_true (by first|(with_reducible assumption)|assumption);have q486:x7_2 <(l0_2.length:Int):=of_decide_eq_true (by first|(with_reducible assumption)|assumption);obtain⟨ad486,e486,hx486_0,hx486_1⟩:=at_T89 HR0_2.out x7_2 p486 q486;cases e486;replace hx486_0:=(HB.out.cell (World.block_lt_of_cell? w _ hx486_0)).trans hx486_0;replace hx486_1:=(HB.out.cell (World.block_lt_of_cell? w _ hx486_1)).trans hx486_1;replace p486:=eq_true p486;replace q486:=eq_true q486)))
            go_roundg k2
            case measure=>have:=HK1.out;have:=HK2.out;omega
            case rel=>exact⟨(Int.tmod (wrap64 (x7_2+1)) (l0_2.length:Int)),(wrap64 (x8_2+1)),(by first|rfl|(simp;done)|(simp [*];done)),(by first|rfl|(simp;done)|(simp [*];done)),H',⟨by have:=HK1.out;have:=HK2.out;omega⟩,⟨by(with_reducible repeat(first|apply Kd.R_alloc|apply Kd.R_drewN|apply Kd.R_drew));exact HO_5.out⟩,⟨by(with_reducible repeat(first|refine blk_drewN ?_ _|refine blk_drew ?_|refine blk_alloc ?_ _));exact BK483.out⟩,⟨by repeat(first|(with_reducible first|exact HB.out|apply below_alloc|apply pw_below_drewN|apply below_drew1|refine below_set ?_ GE483.out)|exact HB.out)⟩⟩
          ·rw [if_neg c12]at H
           have c12b0:decide (((rd_T89 l0_2 x7_2).f0)≤t485)=false:=decide_eq_false c12
           clear c12
           by_cases c16:x5_1.length < 17592186044416
           ·rw [if_pos c16]at H
            have LMc16:=Aside0.mk c16
            clear c16
            obtain⟨y487,hy487⟩:∃y_:List Int,y_=(x5_1++ [x7_2]):=⟨_,rfl⟩
            replace H:(anillaw06_Placed.l0 k2 l1 y487 (wrap64 (x6_1+1)) a0_0 l0_1 l0_2 l0_3 l0_4 l0_5)=some r:=by first|(rw [hy487];with_reducible exact H)|(have H2_:=(Option.bind_some _ _).symm.trans H;rw [hy487];with_reducible exact H2_)|(have H2_:=(Option.bind_some _ _).symm.trans H;with_reducible exact H2_)|with_reducible exact H|(rw [hy487];exact H)|exact H
            have Ny487:=Aside0.mk hy487
            clear hy487
            have H':=Aside0.mk H
            clear H
            have hcz17_0:wr.cell? ⟨gb483,0,none⟩=some (.int .i64 a0_0):=(blk_cell BK483.out 0).trans rfl
            have hcz17_1:wr.cell? ⟨gb483,1,none⟩=some (.slice A0_1 l0_1.length c0_1):=(blk_cell BK483.out 1).trans rfl
            have hcz17_2:wr.cell? ⟨gb483,2,none⟩=some (.slice A0_2 l0_2.length c0_2):=(blk_cell BK483.out 2).trans rfl
            have hcz17_3:wr.cell? ⟨gb483,3,none⟩=some (.slice A0_3 l0_3.length c0_3):=(blk_cell BK483.out 3).trans rfl
            have hcz17_4:wr.cell? ⟨gb483,4,none⟩=some (.slice A0_4 l0_4.length c0_4):=(blk_cell BK483.out 4).trans rfl
            have hcz17_5:wr.cell? ⟨gb483,5,none⟩=some (.slice A0_5 l0_5.length c0_5):=(blk_cell BK483.out 5).trans rfl
            have hfz17_0:=blk_frozen BK483.out 0
            have hfz17_1:=blk_frozen BK483.out 1
            have hfz17_2:=blk_frozen BK483.out 2
            have hfz17_3:=blk_frozen BK483.out 3
            have hfz17_4:=blk_frozen BK483.out 4
            have hfz17_5:=blk_frozen BK483.out 5
            obtain⟨Ao18,co18,eo18⟩:=Kd.R_slice HO_5.out
            subst eo18
            go_wp2_with (first|(go_at_call 92;(with_reducible refine(anillaw06_many.calls k2 _ _ x5_1 x7_2 t485 _ ?side1 ?side2 A9.out).mono ?_);(case side1=>repeat(first|exact(Kd.R_reads' HO_5.out).2.2|(with_reducible refine Kd.C_alloc ?_ _)|(with_reducible refine Kd.C_drewN ?_ _)|(with_reducible refine Kd.C_drew ?_)));(case side2=>exact(Kd.R_reads' HO_5.out).2.1);rintro e w' ⟨rfl,⟨nd,rfl⟩⟩;(try first|exact⟨rfl,_,World.drewN_drewN _ _ _⟩|exact⟨rfl,_,Eq.trans (World.drewN_drewN _ _ _) (congrArg (World.drewN _) (Nat.add_assoc _ _ _))⟩);have p486:0≤(x7_2:Int):=of_decide_eq_true (by first|(with_reducible assumption)|assumption);have q486:x7_2 <(l0_2.length:Int):=of_decide_eq_true (by first|(with_reducible assumption)|assumption);obtain⟨ad486,e486,hx486_0,hx486_1⟩:=at_T89 HR0_2.out x7_2 p486 q486;cases e486;replace hx486_0:=(HB.out.cell (World.block_lt_of_cell? w _ hx486_0)).trans hx486_0;replace hx486_1:=(HB.out.cell (World.block_lt_of_cell? w _ hx486_1)).trans hx486_1;replace p486:=eq_true p486;replace q486:=eq_true q486)|((with_reducible refine gate_builtin (b:= .append) (xs:=#[.tmp 48,.tmp 50]) rfl ?_);at_builtin;refine Kd.R_append (Kd.int .i64) (w0:=w) w.heap.size rfl (.tmp 48) (.tmp 50) 25 3 (.int .i64 0) 8 rfl Try.underlying25 info3 rfl (by decide) (by omega) (.slice Ao18 x5_1.length co18) x5_1 x7_2 [.int .i64 x7_2] (fun _=>True) (fun _=>False) rfl rfl ?aP (fun _ hk=>hk.elim) ?aF ?aO ?aB ?aS ?aL ?_;(case aP=>exact rfl);(case aB=>exact(by repeat(first|(with_reducible first|exact HB.out|apply below_alloc|apply pw_below_drewN|apply below_drew1|refine below_set ?_ GE483.out)|exact HB.out)));(case aF=>exact(fun _ _=>trivial));(case aO=>exact(by(with_reducible repeat(first|apply Kd.R_alloc|apply Kd.R_drewN|apply Kd.R_drew));exact HO_5.out));(case aS=>exact(below_size (by repeat(first|(with_reducible first|exact HB.out|apply below_alloc|apply pw_below_drewN|apply below_drew1|refine below_set ?_ GE483.out)|exact HB.out))));(case aL=>have:=LMc16.out;omega);intro v488 w19 ho hb hg hat;rw [←Ny487.out]at ho;have n0_:=Aside0.mk (blk_grown (g:=gb483) (o:= .cells #[.int .i64 a0_0,.slice A0_1 l0_1.length c0_1,.slice (some ad486) l0_2.length c0_2,.slice A0_3 l0_3.length c0_3,.slice A0_4 l0_4.length c0_4,.slice A0_5 l0_5.length c0_5] 28 (0,0)) (by(with_reducible repeat(first|refine blk_drewN ?_ _|refine blk_drew ?_|refine blk_alloc ?_ _));exact BK483.out) hg (Kd.R_ne HO_5.out BK483.out (by decide)));have n1_:=Aside0.mk (hb);have n2_:=Aside0.mk (ho);clear BK483;clear HB;clear HO_5;have BK483:=n0_;have HB:=n1_;have HO489:=n2_;clear n0_ n1_ n2_;clear ho hb hg hat))
            repeat(go_quiet (first|(go_at_call 92;(with_reducible refine(anillaw06_many.calls k2 _ _ x5_1 x7_2 t485 _ ?side1 ?side2 A9.out).mono ?_);(case side1=>repeat(first|exact(Kd.R_reads' HO_5.out).2.2|(with_reducible refine Kd.C_alloc ?_ _)|(with_reducible refine Kd.C_drewN ?_ _)|(with_reducible refine Kd.C_drew ?_)));(case side2=>exact(Kd.R_reads' HO_5.out).2.1);rintro e w' ⟨rfl,⟨nd,rfl⟩⟩;(try first|exact⟨rfl,_,World.drewN_drewN _ _ _⟩|exact⟨rfl,_,Eq.trans (World.drewN_drewN _ _ _) (congrArg (World.drewN _) (Nat.add_assoc _ _ _))⟩);have p486:0≤(x7_2:Int):=of_decide_eq_true (by first|(with_reducible assumption)|assumption);have q486:x7_2 <(l0_2.length:Int):=of_decide_eq_true (by first|(with_reducible assumption)|assumption);obtain⟨ad486,e486,hx486_0,hx486_1⟩:=at_T89 HR0_2.out x7_2 p486 q486;cases e486;replace hx486_0:=(HB.out.cell (World.block_lt_of_cell? w _ hx486_0)).trans hx486_0;replace hx486_1:=(HB.out.cell (World.block_lt_of_cell? w _ hx486_1)).trans hx486_1;replace p486:=eq_true p486;replace q486:=eq_true q486)|((with_reducible refine gate_builtin (b:= .append) (xs:=#[.tmp 48,.tmp 50]) rfl ?_);at_builtin;refine Kd.R_append (Kd.int .i64) (w0:=w) w.heap.size rfl (.tmp 48) (.tmp 50) 25 3 (.int .i64 0) 8 rfl Try.underlying25 info3 rfl (by decide) (by omega) (.slice Ao18 x5_1.length co18) x5_1 x7_2 [.int .i64 x7_2] (fun _=>True) (fun _=>False) rfl rfl ?aP (fun _ hk=>hk.elim) ?aF ?aO ?aB ?aS ?aL ?_;(case aP=>exact rfl);(case aB=>exact(by repeat(first|(with_reducible first|exact HB.out|apply below_alloc|apply pw_below_drewN|apply below_drew1|refine below_set ?_ GE483.out)|exact HB.out)));(case aF=>exact(fun _ _=>trivial));(case aO=>exact(by(with_reducible repeat(first|apply Kd.R_alloc|apply Kd.R_drewN|apply Kd.R_drew));exact HO_5.out));(case aS=>exact(below_size (by repeat(first|(with_reducible first|exact HB.out|apply below_alloc|apply pw_below_drewN|apply below_drew1|refine below_set ?_ GE483.out)|exact HB.out))));(case aL=>have:=LMc16.out;omega);intro v488 w19 ho hb hg hat;rw [←Ny487.out]at ho;have n0_:=Aside0.mk (blk_grown (g:=gb483) (o:= .cells #[.int .i64 a0_0,.slice A0_1 l0_1.length c0_1,.slice (some ad486) l0_2.length c0_2,.slice A0_3 l0_3.length c0_3,.slice A0_4 l0_4.length c0_4,.slice A0_5 l0_5.length c0_5] 28 (0,0)) (by(with_reducible repeat(first|refine blk_drewN ?_ _|refine blk_drew ?_|refine blk_alloc ?_ _));exact BK483.out) hg (Kd.R_ne HO_5.out BK483.out (by decide)));have n1_:=Aside0.mk (hb);have n2_:=Aside0.mk (ho);clear BK483;clear HB;clear HO_5;have BK483:=n0_;have HB:=n1_;have HO489:=n2_;clear n0_ n1_ n2_;clear ho hb hg hat));try go_wp2_with (first|(go_at_call 92;(with_reducible refine(anillaw06_many.calls k2 _ _ x5_1 x7_2 t485 _ ?side1 ?side2 A9.out).mono ?_);(case side1=>repeat(first|exact(Kd.R_reads' HO_5.out).2.2|(with_reducible refine Kd.C_alloc ?_ _)|(with_reducible refine Kd.C_drewN ?_ _)|(with_reducible refine Kd.C_drew ?_)));(case side2=>exact(Kd.R_reads' HO_5.out).2.1);rintro e w' ⟨rfl,⟨nd,rfl⟩⟩;(try first|exact⟨rfl,_,World.drewN_drewN _ _ _⟩|exact⟨rfl,_,Eq.trans (World.drewN_drewN _ _ _) (congrArg (World.drewN _) (Nat.add_assoc _ _ _))⟩);have p486:0≤(x7_2:Int):=of_decide_eq_true (by first|(with_reducible assumption)|assumption);have q486:x7_2 <(l0_2.length:Int):=of_decide_eq_true (by first|(with_reducible assumption)|assumption);obtain⟨ad486,e486,hx486_0,hx486_1⟩:=at_T89 HR0_2.out x7_2 p486 q486;cases e486;replace hx486_0:=(HB.out.cell (World.block_lt_of_cell? w _ hx486_0)).trans hx486_0;replace hx486_1:=(HB.out.cell (World.block_lt_of_cell? w _ hx486_1)).trans hx486_1;replace p486:=eq_true p486;replace q486:=eq_true q486)|((with_reducible refine gate_builtin (b:= .append) (xs:=#[.tmp 48,.tmp 50]) rfl ?_);at_builtin;refine Kd.R_append (Kd.int .i64) (w0:=w) w.heap.size rfl (.tmp 48) (.tmp 50) 25 3 (.int .i64 0) 8 rfl Try.underlying25 info3 rfl (by decide) (by omega) (.slice Ao18 x5_1.length co18) x5_1 x7_2 [.int .i64 x7_2] (fun _=>True) (fun _=>False) rfl rfl ?aP (fun _ hk=>hk.elim) ?aF ?aO ?aB ?aS ?aL ?_;(case aP=>exact rfl);(case aB=>exact(by repeat(first|(with_reducible first|exact HB.out|apply below_alloc|apply pw_below_drewN|apply below_drew1|refine below_set ?_ GE483.out)|exact HB.out)));(case aF=>exact(fun _ _=>trivial));(case aO=>exact(by(with_reducible repeat(first|apply Kd.R_alloc|apply Kd.R_drewN|apply Kd.R_drew));exact HO_5.out));(case aS=>exact(below_size (by repeat(first|(with_reducible first|exact HB.out|apply below_alloc|apply pw_below_drewN|apply below_drew1|refine below_set ?_ GE483.out)|exact HB.out))));(case aL=>have:=LMc16.out;omega);intro v488 w19 ho hb hg hat;rw [←Ny487.out]at ho;have n0_:=Aside0.mk (blk_grown (g:=gb483) (o:= .cells #[.int .i64 a0_0,.slice A0_1 l0_1.length c0_1,.slice (some ad486) l0_2.length c0_2,.slice A0_3 l0_3.length c0_3,.slice A0_4 l0_4.length c0_4,.slice A0_5 l0_5.length c0_5] 28 (0,0)) (by(with_reducible repeat(first|refine blk_drewN ?_ _|refine blk_drew ?_|refine blk_alloc ?_ _));exact BK483.out) hg (Kd.R_ne HO_5.out BK483.out (by decide)));have n1_:=Aside0.mk (hb);have n2_:=Aside0.mk (ho);clear BK483;clear HB;clear HO_5;have BK483:=n0_;have HB:=n1_;have HO489:=n2_;clear n0_ n1_ n2_;clear ho hb hg hat)))
            go_roundg k2
            case measure=>have:=HK1.out;have:=HK2.out;omega
            case rel=>exact⟨(y487),(wrap64 (x6_1+1)),(by first|rfl|(simp;done)|(simp [*];done)),H',⟨by have:=HK1.out;have:=HK2.out;omega⟩,⟨by(with_reducible repeat(first|apply Kd.R_alloc|apply Kd.R_drewN|apply Kd.R_drew));exact HO489.out⟩,⟨by(with_reducible repeat(first|refine blk_drewN ?_ _|refine blk_drew ?_|refine blk_alloc ?_ _));exact BK483.out⟩,⟨by repeat(first|(with_reducible first|exact HB.out|apply below_alloc|apply pw_below_drewN|apply below_drew1|refine below_set ?_ GE483.out)|exact HB.out)⟩⟩
           ·rw [if_neg c16]at H
            exact absurd H (by simp)
         ·rw [if_neg c11]at H
          exact absurd H (by simp)
        ·rw [if_neg c10]at H
         exact absurd H (by simp)
       ·rw [if_neg c8]at H
        have c8b0:decide (x8_2 <(l0_2.length:Int))=false:=decide_eq_false c8
        clear c8
        by_cases c20:x5_1.length < 17592186044416
        ·rw [if_pos c20]at H
         have LMc20:=Aside0.mk c20
         clear c20
         obtain⟨y490,hy490⟩:∃y_:List Int,y_=(x5_1++ [x7_2]):=⟨_,rfl⟩
         replace H:(anillaw06_Placed.l0 k2 l1 y490 (wrap64 (x6_1+1)) a0_0 l0_1 l0_2 l0_3 l0_4 l0_5)=some r:=by first|(rw [hy490];with_reducible exact H)|(have H2_:=(Option.bind_some _ _).symm.trans H;rw [hy490];with_reducible exact H2_)|(have H2_:=(Option.bind_some _ _).symm.trans H;with_reducible exact H2_)|with_reducible exact H|(rw [hy490];exact H)|exact H
         have Ny490:=Aside0.mk hy490
         clear hy490
         have H':=Aside0.mk H
         clear H
         have hcz21_0:wr.cell? ⟨gb483,0,none⟩=some (.int .i64 a0_0):=(blk_cell BK483.out 0).trans rfl
         have hcz21_1:wr.cell? ⟨gb483,1,none⟩=some (.slice A0_1 l0_1.length c0_1):=(blk_cell BK483.out 1).trans rfl
         have hcz21_2:wr.cell? ⟨gb483,2,none⟩=some (.slice A0_2 l0_2.length c0_2):=(blk_cell BK483.out 2).trans rfl
         have hcz21_3:wr.cell? ⟨gb483,3,none⟩=some (.slice A0_3 l0_3.length c0_3):=(blk_cell BK483.out 3).trans rfl
         have hcz21_4:wr.cell? ⟨gb483,4,none⟩=some (.slice A0_4 l0_4.length c0_4):=(blk_cell BK483.out 4).trans rfl
         have hcz21_5:wr.cell? ⟨gb483,5,none⟩=some (.slice A0_5 l0_5.length c0_5):=(blk_cell BK483.out 5).trans rfl
         have hfz21_0:=blk_frozen BK483.out 0
         have hfz21_1:=blk_frozen BK483.out 1
         have hfz21_2:=blk_frozen BK483.out 2
         have hfz21_3:=blk_frozen BK483.out 3
         have hfz21_4:=blk_frozen BK483.out 4
         have hfz21_5:=blk_frozen BK483.out 5
         go_wp2_with (first|((with_reducible refine gate_builtin (b:= .append) (xs:=#[.tmp 48,.tmp 50]) rfl ?_);at_builtin;refine Kd.R_append (Kd.int .i64) (w0:=w) w.heap.size rfl (.tmp 48) (.tmp 50) 25 3 (.int .i64 0) 8 rfl Try.underlying25 info3 rfl (by decide) (by omega) u5 x5_1 x7_2 [.int .i64 x7_2] (fun _=>True) (fun _=>False) rfl rfl ?aP (fun _ hk=>hk.elim) ?aF ?aO ?aB ?aS ?aL ?_;(case aP=>exact rfl);(case aB=>exact(by repeat(first|(with_reducible first|exact HB.out|apply below_alloc|apply pw_below_drewN|apply below_drew1|refine below_set ?_ GE483.out)|exact HB.out)));(case aF=>exact(fun _ _=>trivial));(case aO=>exact(by(with_reducible repeat(first|apply Kd.R_alloc|apply Kd.R_drewN|apply Kd.R_drew));exact HO_5.out));(case aS=>exact(below_size (by repeat(first|(with_reducible first|exact HB.out|apply below_alloc|apply pw_below_drewN|apply below_drew1|refine below_set ?_ GE483.out)|exact HB.out))));(case aL=>have:=LMc20.out;omega);intro v491 w22 ho hb hg hat;rw [←Ny490.out]at ho;have n0_:=Aside0.mk (blk_grown (g:=gb483) (o:= .cells #[.int .i64 a0_0,.slice A0_1 l0_1.length c0_1,.slice A0_2 l0_2.length c0_2,.slice A0_3 l0_3.length c0_3,.slice A0_4 l0_4.length c0_4,.slice A0_5 l0_5.length c0_5] 28 (0,0)) (by(with_reducible repeat(first|refine blk_drewN ?_ _|refine blk_drew ?_|refine blk_alloc ?_ _));exact BK483.out) hg (Kd.R_ne HO_5.out BK483.out (by decide)));have n1_:=Aside0.mk (hb);have n2_:=Aside0.mk (ho);clear BK483;clear HB;clear HO_5;have BK483:=n0_;have HB:=n1_;have HO492:=n2_;clear n0_ n1_ n2_;clear ho hb hg hat))
         repeat(go_quiet (first|((with_reducible refine gate_builtin (b:= .append) (xs:=#[.tmp 48,.tmp 50]) rfl ?_);at_builtin;refine Kd.R_append (Kd.int .i64) (w0:=w) w.heap.size rfl (.tmp 48) (.tmp 50) 25 3 (.int .i64 0) 8 rfl Try.underlying25 info3 rfl (by decide) (by omega) u5 x5_1 x7_2 [.int .i64 x7_2] (fun _=>True) (fun _=>False) rfl rfl ?aP (fun _ hk=>hk.elim) ?aF ?aO ?aB ?aS ?aL ?_;(case aP=>exact rfl);(case aB=>exact(by repeat(first|(with_reducible first|exact HB.out|apply below_alloc|apply pw_below_drewN|apply below_drew1|refine below_set ?_ GE483.out)|exact HB.out)));(case aF=>exact(fun _ _=>trivial));(case aO=>exact(by(with_reducible repeat(first|apply Kd.R_alloc|apply Kd.R_drewN|apply Kd.R_drew));exact HO_5.out));(case aS=>exact(below_size (by repeat(first|(with_reducible first|exact HB.out|apply below_alloc|apply pw_below_drewN|apply below_drew1|refine below_set ?_ GE483.out)|exact HB.out))));(case aL=>have:=LMc20.out;omega);intro v491 w22 ho hb hg hat;rw [←Ny490.out]at ho;have n0_:=Aside0.mk (blk_grown (g:=gb483) (o:= .cells #[.int .i64 a0_0,.slice A0_1 l0_1.length c0_1,.slice A0_2 l0_2.length c0_2,.slice A0_3 l0_3.length c0_3,.slice A0_4 l0_4.length c0_4,.slice A0_5 l0_5.length c0_5] 28 (0,0)) (by(with_reducible repeat(first|refine blk_drewN ?_ _|refine blk_drew ?_|refine blk_alloc ?_ _));exact BK483.out) hg (Kd.R_ne HO_5.out BK483.out (by decide)));have n1_:=Aside0.mk (hb);have n2_:=Aside0.mk (ho);clear BK483;clear HB;clear HO_5;have BK483:=n0_;have HB:=n1_;have HO492:=n2_;clear n0_ n1_ n2_;clear ho hb hg hat));try go_wp2_with (first|((with_reducible refine gate_builtin (b:= .append) (xs:=#[.tmp 48,.tmp 50]) rfl ?_);at_builtin;refine Kd.R_append (Kd.int .i64) (w0:=w) w.heap.size rfl (.tmp 48) (.tmp 50) 25 3 (.int .i64 0) 8 rfl Try.underlying25 info3 rfl (by decide) (by omega) u5 x5_1 x7_2 [.int .i64 x7_2] (fun _=>True) (fun _=>False) rfl rfl ?aP (fun _ hk=>hk.elim) ?aF ?aO ?aB ?aS ?aL ?_;(case aP=>exact rfl);(case aB=>exact(by repeat(first|(with_reducible first|exact HB.out|apply below_alloc|apply pw_below_drewN|apply below_drew1|refine below_set ?_ GE483.out)|exact HB.out)));(case aF=>exact(fun _ _=>trivial));(case aO=>exact(by(with_reducible repeat(first|apply Kd.R_alloc|apply Kd.R_drewN|apply Kd.R_drew));exact HO_5.out));(case aS=>exact(below_size (by repeat(first|(with_reducible first|exact HB.out|apply below_alloc|apply pw_below_drewN|apply below_drew1|refine below_set ?_ GE483.out)|exact HB.out))));(case aL=>have:=LMc20.out;omega);intro v491 w22 ho hb hg hat;rw [←Ny490.out]at ho;have n0_:=Aside0.mk (blk_grown (g:=gb483) (o:= .cells #[.int .i64 a0_0,.slice A0_1 l0_1.length c0_1,.slice A0_2 l0_2.length c0_2,.slice A0_3 l0_3.length c0_3,.slice A0_4 l0_4.length c0_4,.slice A0_5 l0_5.length c0_5] 28 (0,0)) (by(with_reducible repeat(first|refine blk_drewN ?_ _|refine blk_drew ?_|refine blk_alloc ?_ _));exact BK483.out) hg (Kd.R_ne HO_5.out BK483.out (by decide)));have n1_:=Aside0.mk (hb);have n2_:=Aside0.mk (ho);clear BK483;clear HB;clear HO_5;have BK483:=n0_;have HB:=n1_;have HO492:=n2_;clear n0_ n1_ n2_;clear ho hb hg hat)))
         go_roundg k2
         case measure=>have:=HK1.out;have:=HK2.out;omega
         case rel=>exact⟨(y490),(wrap64 (x6_1+1)),(by first|rfl|(simp;done)|(simp [*];done)),H',⟨by have:=HK1.out;have:=HK2.out;omega⟩,⟨by(with_reducible repeat(first|apply Kd.R_alloc|apply Kd.R_drewN|apply Kd.R_drew));exact HO492.out⟩,⟨by(with_reducible repeat(first|refine blk_drewN ?_ _|refine blk_drew ?_|refine blk_alloc ?_ _));exact BK483.out⟩,⟨by repeat(first|(with_reducible first|exact HB.out|apply below_alloc|apply pw_below_drewN|apply below_drew1|refine below_set ?_ GE483.out)|exact HB.out)⟩⟩
        ·rw [if_neg c20]at H
         exact absurd H (by simp)
   ·rw [if_neg c4]at H
    have c4b0:decide (x6_1 <(l0_3.length:Int))=false:=decide_eq_false c4
    clear c4
    obtain rfl:=Option.some.inj H
    have hcz23_0:wr.cell? ⟨gb483,0,none⟩=some (.int .i64 a0_0):=(blk_cell BK483.out 0).trans rfl
    have hcz23_1:wr.cell? ⟨gb483,1,none⟩=some (.slice A0_1 l0_1.length c0_1):=(blk_cell BK483.out 1).trans rfl
    have hcz23_2:wr.cell? ⟨gb483,2,none⟩=some (.slice A0_2 l0_2.length c0_2):=(blk_cell BK483.out 2).trans rfl
    have hcz23_3:wr.cell? ⟨gb483,3,none⟩=some (.slice A0_3 l0_3.length c0_3):=(blk_cell BK483.out 3).trans rfl
    have hcz23_4:wr.cell? ⟨gb483,4,none⟩=some (.slice A0_4 l0_4.length c0_4):=(blk_cell BK483.out 4).trans rfl
    have hcz23_5:wr.cell? ⟨gb483,5,none⟩=some (.slice A0_5 l0_5.length c0_5):=(blk_cell BK483.out 5).trans rfl
    have hfz23_0:=blk_frozen BK483.out 0
    have hfz23_1:=blk_frozen BK483.out 1
    have hfz23_2:=blk_frozen BK483.out 2
    have hfz23_3:=blk_frozen BK483.out 3
    have hfz23_4:=blk_frozen BK483.out 4
    have hfz23_5:=blk_frozen BK483.out 5
    go_wp2
    repeat(go_quiet (fail);try go_wp2)
    go_ret
    exact⟨_,by first|rfl|(simp [errW_none,errW_some]<;>rfl)|(simp [*,errW_none,errW_some]<;>rfl),by(with_reducible repeat(first|apply Kd.R_alloc|apply Kd.R_drewN|apply Kd.R_drew));exact HO_5.out,by repeat(first|(with_reducible first|exact HB.out|apply below_alloc|apply pw_below_drewN|apply below_drew1|refine below_set ?_ GE483.out)|exact HB.out)⟩
end Go.Proofs.Ytjifalohjlihaaa.Q
end
