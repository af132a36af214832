import Derived.Test.YtjifalohjlihaaaA1
section
namespace Go.Proofs.Ytjifalohjlihaaa.Q
open Go.RowKit Go.Proofs.YtjifalohjlihaaaW.PrintWords Go.Proofs.YtjifalohjlihaaaW.PrintLast Go.Proofs.YtjifalohjlihaaaW.PrintMore
attribute [local go_sem] max2_int min2_int max_two min_two max_three min_three max_four min_four
set_option linter.unusedVariables false
set_option linter.unusedSimpArgs false
mutual
def anilref06_Nth.l0:Nat→Int→Int→Int→List (S52)→List (S89)→List (S54)→List Int→List (S108)→List Int→Option (List Int×List Int)
 |0,_,_,_,_,_,_,_,_,_=>none
 |k+1,x1,x6,x174000,x174001,x174002,x174003,x174004,x174005,x176000=>if x6 <(x174001.length:Int)then(if 0≤x6 then((anilref06_Size.f ((rd_T52 x174001 x6).f0) ((rd_T52 x174001 x6).f1)).bind fun t178=>(if t178=0 then(none)else(if x176000.length < 17592186044416 then((anilref06_Size.f ((rd_T52 x174001 x6).f0) ((rd_T52 x174001 x6).f1)).bind fun t182=>(if t182=0 then(none)else(anilref06_Nth.l0 k (wrap64 (Int.tdiv x1 t182)) (wrap64 (x6+1)) x174000 x174001 x174002 x174003 x174004 x174005 (x176000++ [wrap64 (((rd_T52 x174001 x6).f0)+(Int.tmod x1 t178))]))))else(none))))else(none))else(anilref06_Nth.l1 k x1 0 x174000 x174001 x174002 x174003 x174004 x174005 x176000 ([]:List Int))
def anilref06_Nth.l1:Nat→Int→Int→Int→List (S52)→List (S89)→List (S54)→List Int→List (S108)→List Int→List Int→Option (List Int×List Int)
 |0,_,_,_,_,_,_,_,_,_,_=>none
 |k+1,x1,x8,x174000,x174001,x174002,x174003,x174004,x174005,x176000,x176001=>if x8 <(x174003.length:Int)then(if 0≤x8 then((anilref06_Size.f ((rd_T54 x174003 x8).f1.f0) ((rd_T54 x174003 x8).f1.f1)).bind fun t185=>(if t185=0 then(none)else(if x176001.length < 17592186044416 then((anilref06_Size.f ((rd_T54 x174003 x8).f1.f0) ((rd_T54 x174003 x8).f1.f1)).bind fun t189=>(if t189=0 then(none)else(anilref06_Nth.l1 k (wrap64 (Int.tdiv x1 t189)) (wrap64 (x8+1)) x174000 x174001 x174002 x174003 x174004 x174005 x176000 (x176001++ [wrap64 (((rd_T54 x174003 x8).f1.f0)+(Int.tmod x1 t185))]))))else(none))))else(none))else(some (x176000,x176001))
end
def anilref06_Nth.f (k:Nat) (a0_0:Int) (l0_1:List (S52)) (l0_2:List (S89)) (l0_3:List (S54)) (l0_4:List Int) (l0_5:List (S108)) (a1:Int):Option (List Int×List Int):=anilref06_Nth.l0 k a1 0 a0_0 l0_1 l0_2 l0_3 l0_4 l0_5 ([]:List Int)
def anilref06_Nth.T6:Bool×List (List Nat×List Nat):=(true,[([],[]),([0],[0]),([],[]),([2],[2]),([],[]),([],[]),([5],[5]),([4,6],[4,6]),([3,7],[3,7]),([8],[8]),([1,9,6],[1,9]),([],[]),([],[]),([12,10],[12]),([11,13],[11,13]),([0,1,2,3,4,5,6,7,8,9,10],[]),([15,10,13,0,1,2,3,4,5,6,7,8,9,10],[10,15]),([14,16,0,1,2,3,4,5,6,7,8,9,10,11,12,13,14,15,16],[4,11,14])])
def anilref06_Nth.B6:List Nat:= [0,1,0,4,0,0,32,112,252,508,1023,0,0,6143,16383,2047,47103,131071]
theorem anilref06_Nth.tab6:rtab .any (opsOf Try.f48 6)=anilref06_Nth.T6:=by kernel_rfl
theorem anilref06_Nth.bits6:waitsOk anilref06_Nth.T6.2 anilref06_Nth.B6=true:=by kernel_rfl
def anilref06_Nth.T11:Bool×List (List Nat×List Nat):=(true,[([],[]),([0],[0]),([],[]),([2],[2]),([],[]),([],[]),([5],[5]),([4,6],[4,6]),([3,7],[3,7]),([8],[8]),([1,9,6],[1,9]),([],[]),([],[]),([12,10],[12]),([11,13],[11,13]),([0,1,2,3,4,5,6,7,8,9,10],[]),([15,10,13,0,1,2,3,4,5,6,7,8,9,10],[10,15]),([14,16,0,1,2,3,4,5,6,7,8,9,10,11,12,13,14,15,16],[4,11,14])])
def anilref06_Nth.B11:List Nat:= [0,1,0,4,0,0,32,112,252,508,1023,0,0,6143,16383,2047,47103,131071]
theorem anilref06_Nth.tab11:rtab .any (opsOf Try.f48 11)=anilref06_Nth.T11:=by kernel_rfl
theorem anilref06_Nth.bits11:waitsOk anilref06_Nth.T11.2 anilref06_Nth.B11=true:=by kernel_rfl
set_option maxHeartbeats 8000000 in
set_option maxRecDepth 100000 in
theorem anilref06_Nth.calls (k:Nat) (a0_0:Int) (A0_1:Option Addr) (c0_1:Nat) (l0_1:List (S52)) (A0_2:Option Addr) (c0_2:Nat) (l0_2:List (S89)) (A0_3:Option Addr) (c0_3:Nat) (l0_3:List (S54)) (A0_4:Option Addr) (c0_4:Nat) (l0_4:List Int) (A0_5:Option Addr) (c0_5:Nat) (l0_5:List (S108)) (a1:Int) (r1:List Int) (r2:List Int) (w:World) (hr0_1:Kd.C k52 w A0_1 l0_1.length l0_1) (hc0_1:l0_1.length≤c0_1) (hr0_2:Kd.C k89 w A0_2 l0_2.length l0_2) (hc0_2:l0_2.length≤c0_2) (hr0_3:Kd.C k54 w A0_3 l0_3.length l0_3) (hc0_3:l0_3.length≤c0_3) (hr0_4:Kd.C (Kd.int .i64) w A0_4 l0_4.length l0_4) (hc0_4:l0_4.length≤c0_4) (hr0_5:Kd.C k108 w A0_5 l0_5.length l0_5) (hc0_5:l0_5.length≤c0_5) (h:anilref06_Nth.f k a0_0 l0_1 l0_2 l0_3 l0_4 l0_5 a1=some (r1,r2)):
  Calls Try.prog 48 #[.agg #[.int .i64 a0_0,.slice A0_1 l0_1.length c0_1,.slice A0_2 l0_2.length c0_2,.slice A0_3 l0_3.length c0_3,.slice A0_4 l0_4.length c0_4,.slice A0_5 l0_5.length c0_5],.int .i64 a1] w fun e w'=>∃v0_ v1_:Value,e= .returned (.agg #[v0_,v1_])∧Kd.R (Kd.int .i64) 3 w' w.heap.size (fun k_=>some k_≠(v1_:Value).ownBlock) v0_ r1∧Kd.R (Kd.int .i64) 3 w' w.heap.size (fun k_=>some k_≠(v0_:Value).ownBlock) v1_ r2∧Below w.heap.size w w':=by
 have hu28:=Try.underlying28
 have hu76:=Try.underlying76
 have hu52:=Try.underlying52
 have HR0_1:=Aside0.mk hr0_1
 have HC0_1:=Aside0.mk hc0_1
 clear hr0_1 hc0_1
 have HR0_2:=Aside0.mk hr0_2
 have HC0_2:=Aside0.mk hc0_2
 clear hr0_2 hc0_2
 have HR0_3:=Aside0.mk hr0_3
 have HC0_3:=Aside0.mk hc0_3
 clear hr0_3 hc0_3
 have HR0_4:=Aside0.mk hr0_4
 have HC0_4:=Aside0.mk hc0_4
 clear hr0_4 hc0_4
 have HR0_5:=Aside0.mk hr0_5
 have HC0_5:=Aside0.mk hc0_5
 clear hr0_5 hc0_5
 have HB:=Aside0.mk (Below.refl w.heap.size w)
 have H:(anilref06_Nth.l0 k a1 0 a0_0 l0_1 l0_2 l0_3 l0_4 l0_5 ([]:List Int))=some (r1,r2):=h
 clear h
 have H':=Aside0.mk H
 clear H
 go_enter Try.func48,Try.ntmps48
 go_wp2_with (first|((with_reducible refine gate_dst (N:=2) rfl ?_);refine box_event ?hg (N:=2) ?hd (cs:=#[.int .i64 a0_0,.slice A0_1 l0_1.length c0_1,.slice A0_2 l0_2.length c0_2,.slice A0_3 l0_3.length c0_3,.slice A0_4 l0_4.length c0_4,.slice A0_5 l0_5.length c0_5]) (t:=28) ?hr ?_;(case hd=>rfl);(case hg=>rfl);(case hr=>first|(go_simp;done)|(go_simp;rfl));intro gb173 hg w3 hbox hb;have n0_:=Aside0.mk (below_step (by repeat(first|(with_reducible first|exact HB.out|apply below_alloc|apply pw_below_drewN|apply below_drew1)|exact HB.out)) hb);have n1_:=Aside0.mk (hbox);have n2_:=Aside0.mk ((by rw [hg];exact(below_size (by repeat(first|(with_reducible first|exact HB.out|apply below_alloc|apply pw_below_drewN|apply below_drew1)|exact HB.out))):w.heap.size≤gb173));have n3_:=Aside0.mk ((by rw [hg];exact(below_size (by repeat(first|(with_reducible first|exact HB.out|apply below_alloc|apply pw_below_drewN|apply below_drew1)|exact HB.out))):w.heap.size≤gb173));clear HB;have HB:=n0_;have BK173:=n1_;have GW173:=n2_;have GE173:=n3_;clear n0_ n1_ n2_ n3_;clear hb hbox hg)|((with_reducible refine gate_dst (N:=4) rfl ?_);refine box_event ?hg (N:=4) ?hd (cs:=#[.slice none 0 0,.slice none 0 0]) (t:=76) ?hr ?_;(case hd=>rfl);(case hg=>rfl);(case hr=>first|(go_simp;done)|(go_simp;rfl));intro gb174 hg w4 hbox hb;have n0_:=Aside0.mk (blk_below (g:=gb173) (o:= .cells #[.int .i64 a0_0,.slice A0_1 l0_1.length c0_1,.slice A0_2 l0_2.length c0_2,.slice A0_3 l0_3.length c0_3,.slice A0_4 l0_4.length c0_4,.slice A0_5 l0_5.length c0_5] 28 (0,0)) (by(with_reducible repeat(first|refine blk_drewN ?_ _|refine blk_drew ?_|refine blk_alloc ?_ _));exact BK173.out) hb);have n1_:=Aside0.mk (below_step (by repeat(first|(with_reducible first|exact HB.out|apply below_alloc|apply pw_below_drewN|apply below_drew1|refine below_set ?_ GE173.out)|exact HB.out)) hb);have n2_:=Aside0.mk (hbox);have n3_:=Aside0.mk ((by rw [hg];exact(below_size (by repeat(first|(with_reducible first|exact HB.out|apply below_alloc|apply pw_below_drewN|apply below_drew1|refine below_set ?_ GE173.out)|exact HB.out))):w.heap.size≤gb174));have n4_:=Aside0.mk ((by rw [hg];exact(below_size (by repeat(first|(with_reducible first|exact HB.out|apply below_alloc|apply pw_below_drewN|apply below_drew1|refine below_set ?_ GE173.out)|exact HB.out))):w.heap.size≤gb174));have n5_:=Aside0.mk ((by rw [hg];exact Nat.ne_of_lt (blk_lt (g:=gb173) (o:= .cells #[.int .i64 a0_0,.slice A0_1 l0_1.length c0_1,.slice A0_2 l0_2.length c0_2,.slice A0_3 l0_3.length c0_3,.slice A0_4 l0_4.length c0_4,.slice A0_5 l0_5.length c0_5] 28 (0,0)) (by(with_reducible repeat(first|refine blk_drewN ?_ _|refine blk_drew ?_|refine blk_alloc ?_ _));exact BK173.out)):gb173≠gb174));have n6_:=Aside0.mk ((by rw [hg];exact Nat.ne_of_gt (blk_lt (g:=gb173) (o:= .cells #[.int .i64 a0_0,.slice A0_1 l0_1.length c0_1,.slice A0_2 l0_2.length c0_2,.slice A0_3 l0_3.length c0_3,.slice A0_4 l0_4.length c0_4,.slice A0_5 l0_5.length c0_5] 28 (0,0)) (by(with_reducible repeat(first|refine blk_drewN ?_ _|refine blk_drew ?_|refine blk_alloc ?_ _));exact BK173.out)):gb174≠gb173));clear BK173;clear HB;have BK173:=n0_;have HB:=n1_;have BK174:=n2_;have GW174:=n3_;have GE174:=n4_;have NB173_174:=n5_;have NB174_173:=n6_;clear n0_ n1_ n2_ n3_ n4_ n5_ n6_;clear hb hbox hg)|((with_reducible refine gate_dst (N:=5) rfl ?_);refine box_event ?hg (N:=5) ?hd (cs:=#[.slice none 0 0,.slice none 0 0]) (t:=76) ?hr ?_;(case hd=>rfl);(case hg=>rfl);(case hr=>first|(go_simp;done)|(go_simp;rfl));intro gb175 hg w5 hbox hb;have n0_:=Aside0.mk (blk_below (g:=gb173) (o:= .cells #[.int .i64 a0_0,.slice A0_1 l0_1.length c0_1,.slice A0_2 l0_2.length c0_2,.slice A0_3 l0_3.length c0_3,.slice A0_4 l0_4.length c0_4,.slice A0_5 l0_5.length c0_5] 28 (0,0)) (by(with_reducible repeat(first|refine blk_drewN ?_ _|refine blk_drew ?_|refine blk_alloc ?_ _));exact BK173.out) hb);have n1_:=Aside0.mk (blk_below (g:=gb174) (o:= .cells #[.slice none 0 0,.slice none 0 0] 76 (0,0)) (by(with_reducible repeat(first|refine blk_drewN ?_ _|refine blk_drew ?_|refine blk_alloc ?_ _));exact BK174.out) hb);have n2_:=Aside0.mk (below_step (by repeat(first|(with_reducible first|exact HB.out|apply below_alloc|apply pw_below_drewN|apply below_drew1|refine below_set ?_ GE173.out|refine below_set ?_ GE174.out)|exact HB.out)) hb);have n3_:=Aside0.mk (hbox);have n4_:=Aside0.mk ((by rw [hg];exact(below_size (by repeat(first|(with_reducible first|exact HB.out|apply below_alloc|apply pw_below_drewN|apply below_drew1|refine below_set ?_ GE173.out|refine below_set ?_ GE174.out)|exact HB.out))):w.heap.size≤gb175));have n5_:=Aside0.mk ((by rw [hg];exact(below_size (by repeat(first|(with_reducible first|exact HB.out|apply below_alloc|apply pw_below_drewN|apply below_drew1|refine below_set ?_ GE173.out|refine below_set ?_ GE174.out)|exact HB.out))):w.heap.size≤gb175));have n6_:=Aside0.mk ((by rw [hg];exact Nat.ne_of_lt (blk_lt (g:=gb173) (o:= .cells #[.int .i64 a0_0,.slice A0_1 l0_1.length c0_1,.slice A0_2 l0_2.length c0_2,.slice A0_3 l0_3.length c0_3,.slice A0_4 l0_4.length c0_4,.slice A0_5 l0_5.length c0_5] 28 (0,0)) (by(with_reducible repeat(first|refine blk_drewN ?_ _|refine blk_drew ?_|refine blk_alloc ?_ _));exact BK173.out)):gb173≠gb175));have n7_:=Aside0.mk ((by rw [hg];exact Nat.ne_of_gt (blk_lt (g:=gb173) (o:= .cells #[.int .i64 a0_0,.slice A0_1 l0_1.length c0_1,.slice A0_2 l0_2.length c0_2,.slice A0_3 l0_3.length c0_3,.slice A0_4 l0_4.length c0_4,.slice A0_5 l0_5.length c0_5] 28 (0,0)) (by(with_reducible repeat(first|refine blk_drewN ?_ _|refine blk_drew ?_|refine blk_alloc ?_ _));exact BK173.out)):gb175≠gb173));have n8_:=Aside0.mk ((by rw [hg];exact Nat.ne_of_lt (blk_lt (g:=gb174) (o:= .cells #[.slice none 0 0,.slice none 0 0] 76 (0,0)) (by(with_reducible repeat(first|refine blk_drewN ?_ _|refine blk_drew ?_|refine blk_alloc ?_ _));exact BK174.out)):gb174≠gb175));have n9_:=Aside0.mk ((by rw [hg];exact Nat.ne_of_gt (blk_lt (g:=gb174) (o:= .cells #[.slice none 0 0,.slice none 0 0] 76 (0,0)) (by(with_reducible repeat(first|refine blk_drewN ?_ _|refine blk_drew ?_|refine blk_alloc ?_ _));exact BK174.out)):gb175≠gb174));clear BK173;clear BK174;clear HB;have BK173:=n0_;have BK174:=n1_;have HB:=n2_;have BK175:=n3_;have GW175:=n4_;have GE175:=n5_;have NB173_175:=n6_;have NB175_173:=n7_;have NB174_175:=n8_;have NB175_174:=n9_;clear n0_ n1_ n2_ n3_ n4_ n5_ n6_ n7_ n8_ n9_;clear hb hbox hg))
 go_loopg [1,6] k (fun kq v1 v6 w'=>∃(x1_1:Int) (x6_1:Int) (x176000_1:List Int) (u176000:Value),v1= .int .i64 x1_1∧v6= .int .i64 x6_1∧Aside0 (anilref06_Nth.l0 kq x1_1 x6_1 a0_0 l0_1 l0_2 l0_3 l0_4 l0_5 x176000_1=some (r1,r2))∧Aside0 (kq≤k)∧Aside0 (Kd.R (Kd.int .i64) 3 w' w.heap.size (fun _=>True) u176000 x176000_1)∧Aside0 (w'.heap[gb173]? =some (.cells #[.int .i64 a0_0,(.slice A0_1 l0_1.length c0_1),(.slice A0_2 l0_2.length c0_2),(.slice A0_3 l0_3.length c0_3),(.slice A0_4 l0_4.length c0_4),(.slice A0_5 l0_5.length c0_5)] 28 (0,0)))∧Aside0 (w'.heap[gb174]? =some (.cells #[(.slice none 0 0),(.slice none 0 0)] 76 (0,0)))∧Aside0 (w'.heap[gb175]? =some (.cells #[u176000,(.slice none 0 0)] 76 (0,0)))∧Aside0 (Below w.heap.size w w'))
 case atStart=>exact⟨(a1),(0),(([]:List Int)),(.slice none 0 0),(by first|rfl|(simp;done)|(simp [*];done)),(by first|rfl|(simp;done)|(simp [*];done)),H',⟨Nat.le_refl _⟩,⟨by first|exact Kd.R_nil _ _ _ _ _|exact Kd.N_nil _ _ _ _ _|exact Kd.V_nil _ _ _ _ _|exact Kd.Q_nil _ _ _ _ _|exact Kd.S_nil _ _ _ _ _⟩,⟨by(with_reducible repeat(first|refine blk_drewN ?_ _|refine blk_drew ?_|refine blk_alloc ?_ _));exact BK173.out⟩,⟨by(with_reducible repeat(first|refine blk_drewN ?_ _|refine blk_drew ?_|refine blk_alloc ?_ _));exact BK174.out⟩,⟨by(with_reducible repeat(first|refine blk_drewN ?_ _|refine blk_drew ?_|refine blk_alloc ?_ _));exact BK175.out⟩,⟨by repeat(first|(with_reducible first|exact HB.out|apply below_alloc|apply pw_below_drewN|apply below_drew1|refine below_set ?_ GE173.out|refine below_set ?_ GE174.out|refine below_set ?_ GE175.out)|exact HB.out)⟩⟩
 case round=>
  clear H'
  try clear p2
  try clear c4
  obtain⟨x1_1,x6_1,x176000_1,u176000,rfl,rfl,HA,HK1,HO_176000,BK173,BK174,BK175,HB⟩:=hrel
  cases gk with
  |zero=>exact absurd HA.out (by simp [anilref06_Nth.l0])
  |succ k1=>
   have H:=HA.out
   clear HA
   simp only [anilref06_Nth.l0]at H
   by_cases c6:x6_1 <(l0_1.length:Int)
   ·rw [if_pos c6]at H
    have c6b0:decide (x6_1 <(l0_1.length:Int))=true:=decide_eq_true c6
    clear c6
    by_cases c7:0≤x6_1
    ·rw [if_pos c7]at H
     have c7b0:decide (0≤x6_1)=true:=decide_eq_true c7
     clear c7
     replace H:=Option.bind_eq_some_iff.mp H
     obtain⟨t178,A80,H⟩:=H
     replace H:(if t178=0 then(none)else(if x176000_1.length < 17592186044416 then((anilref06_Size.f ((rd_T52 l0_1 x6_1).f0) ((rd_T52 l0_1 x6_1).f1)).bind fun t182=>(if t182=0 then(none)else(anilref06_Nth.l0 k1 (wrap64 (Int.tdiv x1_1 t182)) (wrap64 (x6_1+1)) a0_0 l0_1 l0_2 l0_3 l0_4 l0_5 (x176000_1++ [wrap64 (((rd_T52 l0_1 x6_1).f0)+(Int.tmod x1_1 t178))]))))else(none)))=some (r1,r2):=H
     have A8:=Aside0.mk A80
     clear A80
     by_cases c9:t178=0
     ·rw [if_pos c9]at H
      exact absurd H (by simp)
     ·rw [if_neg c9]at H
      have c9b0:(t178==0)=false:=beq_eq_false_iff_ne.mpr c9
      have c9b1:(t178 !=0)=true:=bne_iff_ne.mpr c9
      by_cases c10:x176000_1.length < 17592186044416
      ·rw [if_pos c10]at H
       have LMc10:=Aside0.mk c10
       clear c10
       obtain⟨y179,hy179⟩:∃y_:List Int,y_=(x176000_1++ [wrap64 (((rd_T52 l0_1 x6_1).f0)+(Int.tmod x1_1 t178))]):=⟨_,rfl⟩
       replace H:((anilref06_Size.f ((rd_T52 l0_1 x6_1).f0) ((rd_T52 l0_1 x6_1).f1)).bind fun t182=>(if t182=0 then(none)else(anilref06_Nth.l0 k1 (wrap64 (Int.tdiv x1_1 t182)) (wrap64 (x6_1+1)) a0_0 l0_1 l0_2 l0_3 l0_4 l0_5 y179)))=some (r1,r2):=by first|(rw [hy179];with_reducible exact H)|(have H2_:=(Option.bind_some _ _).symm.trans H;rw [hy179];with_reducible exact H2_)|(have H2_:=(Option.bind_some _ _).symm.trans H;with_reducible exact H2_)|with_reducible exact H|(rw [hy179];exact H)|exact H
       have Ny179:=Aside0.mk hy179
       clear hy179
       replace H:=Option.bind_eq_some_iff.mp H
       obtain⟨t182,A110,H⟩:=H
       replace H:(if t182=0 then(none)else(anilref06_Nth.l0 k1 (wrap64 (Int.tdiv x1_1 t182)) (wrap64 (x6_1+1)) a0_0 l0_1 l0_2 l0_3 l0_4 l0_5 y179))=some (r1,r2):=H
       have A11:=Aside0.mk A110
       clear A110
       by_cases c12:t182=0
       ·rw [if_pos c12]at H
        exact absurd H (by simp)
       ·rw [if_neg c12]at H
        have c12b0:(t182==0)=false:=beq_eq_false_iff_ne.mpr c12
        have c12b1:(t182 !=0)=true:=bne_iff_ne.mpr c12
        have H':=Aside0.mk H
        clear H
        have hnb13:=NB173_174.out
        have hnc13:=NB174_173.out
        have hnb14:=NB173_175.out
        have hnc14:=NB175_173.out
        have hcz15_0:wr.cell? ⟨gb173,0,none⟩=some (.int .i64 a0_0):=(blk_cell BK173.out 0).trans rfl
        have hcz15_1:wr.cell? ⟨gb173,1,none⟩=some (.slice A0_1 l0_1.length c0_1):=(blk_cell BK173.out 1).trans rfl
        have hcz15_2:wr.cell? ⟨gb173,2,none⟩=some (.slice A0_2 l0_2.length c0_2):=(blk_cell BK173.out 2).trans rfl
        have hcz15_3:wr.cell? ⟨gb173,3,none⟩=some (.slice A0_3 l0_3.length c0_3):=(blk_cell BK173.out 3).trans rfl
        have hcz15_4:wr.cell? ⟨gb173,4,none⟩=some (.slice A0_4 l0_4.length c0_4):=(blk_cell BK173.out 4).trans rfl
        have hcz15_5:wr.cell? ⟨gb173,5,none⟩=some (.slice A0_5 l0_5.length c0_5):=(blk_cell BK173.out 5).trans rfl
        have hfz15_0:=blk_frozen BK173.out 0
        have hfz15_1:=blk_frozen BK173.out 1
        have hfz15_2:=blk_frozen BK173.out 2
        have hfz15_3:=blk_frozen BK173.out 3
        have hfz15_4:=blk_frozen BK173.out 4
        have hfz15_5:=blk_frozen BK173.out 5
        have p176:0≤(x6_1:Int):=of_decide_eq_true (by first|(with_reducible assumption)|assumption)
        have q176:x6_1 <(l0_1.length:Int):=of_decide_eq_true (by first|(with_reducible assumption)|assumption)
        obtain⟨ad176,e176,hx176_0,hx176_1⟩:=at_T52 HR0_1.out x6_1 p176 q176
        cases e176
        replace hx176_0:=(HB.out.cell (World.block_lt_of_cell? w _ hx176_0)).trans hx176_0
        replace hx176_1:=(HB.out.cell (World.block_lt_of_cell? w _ hx176_1)).trans hx176_1
        replace p176:=eq_true p176
        replace q176:=eq_true q176
        try go_wp2_with (first|((with_reducible refine gate_dst (N:=7) rfl ?_);refine box_event ?hg (N:=7) ?hd (cs:=#[.int .i64 0,.int .i64 0]) (t:=52) ?hr ?_;(case hd=>rfl);(case hg=>rfl);(case hr=>first|(go_simp;done)|(go_simp;rfl));intro gb177 hg w16 hbox hb;have n0_:=Aside0.mk (Kd.R_below (by(with_reducible repeat(first|apply Kd.R_alloc|apply Kd.R_drewN|apply Kd.R_drew));exact HO_176000.out) hb);have n1_:=Aside0.mk (blk_below (g:=gb173) (o:= .cells #[.int .i64 a0_0,.slice (some ad176) l0_1.length c0_1,.slice A0_2 l0_2.length c0_2,.slice A0_3 l0_3.length c0_3,.slice A0_4 l0_4.length c0_4,.slice A0_5 l0_5.length c0_5] 28 (0,0)) (by(with_reducible repeat(first|refine blk_drewN ?_ _|refine blk_drew ?_|refine blk_alloc ?_ _));exact BK173.out) hb);have n2_:=Aside0.mk (blk_below (g:=gb174) (o:= .cells #[.slice none 0 0,.slice none 0 0] 76 (0,0)) (by(with_reducible repeat(first|refine blk_drewN ?_ _|refine blk_drew ?_|refine blk_alloc ?_ _));exact BK174.out) hb);have n3_:=Aside0.mk (blk_below (g:=gb175) (o:= .cells #[u176000,.slice none 0 0] 76 (0,0)) (by(with_reducible repeat(first|refine blk_drewN ?_ _|refine blk_drew ?_|refine blk_alloc ?_ _));exact BK175.out) hb);have n4_:=Aside0.mk (below_step (by repeat(first|(with_reducible first|exact HB.out|apply below_alloc|apply pw_below_drewN|apply below_drew1|refine below_set ?_ GE173.out|refine below_set ?_ GE174.out|refine below_set ?_ GE175.out)|exact HB.out)) hb);have n5_:=Aside0.mk (hbox);have n6_:=Aside0.mk ((by rw [hg];exact(below_size (by repeat(first|(with_reducible first|exact HB.out|apply below_alloc|apply pw_below_drewN|apply below_drew1|refine below_set ?_ GE173.out|refine below_set ?_ GE174.out|refine below_set ?_ GE175.out)|exact HB.out))):w.heap.size≤gb177));have n7_:=Aside0.mk ((by rw [hg];exact(below_size (by repeat(first|(with_reducible first|exact HB.out|apply below_alloc|apply pw_below_drewN|apply below_drew1|refine below_set ?_ GE173.out|refine below_set ?_ GE174.out|refine below_set ?_ GE175.out)|exact HB.out))):w.heap.size≤gb177));have n8_:=Aside0.mk ((by rw [hg];exact Nat.ne_of_lt (blk_lt (g:=gb173) (o:= .cells #[.int .i64 a0_0,.slice (some ad176) l0_1.length c0_1,.slice A0_2 l0_2.length c0_2,.slice A0_3 l0_3.length c0_3,.slice A0_4 l0_4.length c0_4,.slice A0_5 l0_5.length c0_5] 28 (0,0)) (by(with_reducible repeat(first|refine blk_drewN ?_ _|refine blk_drew ?_|refine blk_alloc ?_ _));exact BK173.out)):gb173≠gb177));have n9_:=Aside0.mk ((by rw [hg];exact Nat.ne_of_gt (blk_lt (g:=gb173) (o:= .cells #[.int .i64 a0_0,.slice (some ad176) l0_1.length c0_1,.slice A0_2 l0_2.length c0_2,.slice A0_3 l0_3.length c0_3,.slice A0_4 l0_4.length c0_4,.slice A0_5 l0_5.length c0_5] 28 (0,0)) (by(with_reducible repeat(first|refine blk_drewN ?_ _|refine blk_drew ?_|refine blk_alloc ?_ _));exact BK173.out)):gb177≠gb173));have n10_:=Aside0.mk ((by rw [hg];exact Nat.ne_of_lt (blk_lt (g:=gb174) (o:= .cells #[.slice none 0 0,.slice none 0 0] 76 (0,0)) (by(with_reducible repeat(first|refine blk_drewN ?_ _|refine blk_drew ?_|refine blk_alloc ?_ _));exact BK174.out)):gb174≠gb177));have n11_:=Aside0.mk ((by rw [hg];exact Nat.ne_of_gt (blk_lt (g:=gb174) (o:= .cells #[.slice none 0 0,.slice none 0 0] 76 (0,0)) (by(with_reducible repeat(first|refine blk_drewN ?_ _|refine blk_drew ?_|refine blk_alloc ?_ _));exact BK174.out)):gb177≠gb174));have n12_:=Aside0.mk ((by rw [hg];exact Nat.ne_of_lt (blk_lt (g:=gb175) (o:= .cells #[u176000,.slice none 0 0] 76 (0,0)) (by(with_reducible repeat(first|refine blk_drewN ?_ _|refine blk_drew ?_|refine blk_alloc ?_ _));exact BK175.out)):gb175≠gb177));have n13_:=Aside0.mk ((by rw [hg];exact Nat.ne_of_gt (blk_lt (g:=gb175) (o:= .cells #[u176000,.slice none 0 0] 76 (0,0)) (by(with_reducible repeat(first|refine blk_drewN ?_ _|refine blk_drew ?_|refine blk_alloc ?_ _));exact BK175.out)):gb177≠gb175));clear HO_176000;clear BK173;clear BK174;clear BK175;clear HB;have HO_176000:=n0_;have BK173:=n1_;have BK174:=n2_;have BK175:=n3_;have HB:=n4_;have BK177:=n5_;have GW177:=n6_;have GE177:=n7_;have NB173_177:=n8_;have NB177_173:=n9_;have NB174_177:=n10_;have NB177_174:=n11_;have NB175_177:=n12_;have NB177_175:=n13_;clear n0_ n1_ n2_ n3_ n4_ n5_ n6_ n7_ n8_ n9_ n10_ n11_ n12_ n13_;clear hb hbox hg;have hnb17:=NB177_173.out;have hnc17:=NB173_177.out;have hnb18:=NB177_174.out;have hnc18:=NB174_177.out;have hnb19:=NB177_175.out;have hnc19:=NB175_177.out;have hcz20_0:w16.cell? ⟨gb177,0,none⟩=some (.int .i64 0):=(blk_cell BK177.out 0).trans rfl;have hcz20_1:w16.cell? ⟨gb177,1,none⟩=some (.int .i64 0):=(blk_cell BK177.out 1).trans rfl;have hfz20_0:=blk_frozen BK177.out 0;have hfz20_1:=blk_frozen BK177.out 1))
        have n0_:Aside0 (Kd.R (Kd.int .i64) 3 ((w16.setCell ⟨gb177,0,none⟩ (.int .i64 ((rd_T52 l0_1 x6_1).f0))).setCell ⟨gb177,1,none⟩ (.int .i64 ((rd_T52 l0_1 x6_1).f1))) w.heap.size (fun _=>True) u176000 x176000_1):=⟨by(with_reducible repeat(first|apply Kd.R_alloc|apply Kd.R_drewN|apply Kd.R_drew));exact Kd.R_mono (Kd.R_far (p:=⟨gb177,1,none⟩) (Kd.R_far (p:=⟨gb177,0,none⟩) (Kd.R_types HO_176000.out BK177.out (by decide)) (fun _ hk=>hk.2) (.int .i64 ((rd_T52 l0_1 x6_1).f0))) (fun _ hk=>hk.2) (.int .i64 ((rd_T52 l0_1 x6_1).f1))) (fun _ hk=>trivial)⟩
        have n1_:Aside0 (((w16.setCell ⟨gb177,0,none⟩ (.int .i64 ((rd_T52 l0_1 x6_1).f0))).setCell ⟨gb177,1,none⟩ (.int .i64 ((rd_T52 l0_1 x6_1).f1))).heap[gb173]? =some (.cells #[.int .i64 a0_0,.slice (some ad176) l0_1.length c0_1,.slice A0_2 l0_2.length c0_2,.slice A0_3 l0_3.length c0_3,.slice A0_4 l0_4.length c0_4,.slice A0_5 l0_5.length c0_5] 28 (0,0))):=⟨by(with_reducible repeat(first|refine blk_drewN ?_ _|refine blk_drew ?_|refine blk_alloc ?_ _));refine blk_far ?_ NB173_177.out _;(with_reducible repeat(first|refine blk_drewN ?_ _|refine blk_drew ?_|refine blk_alloc ?_ _));refine blk_far ?_ NB173_177.out _;(with_reducible repeat(first|refine blk_drewN ?_ _|refine blk_drew ?_|refine blk_alloc ?_ _));exact BK173.out⟩
        have n2_:Aside0 (((w16.setCell ⟨gb177,0,none⟩ (.int .i64 ((rd_T52 l0_1 x6_1).f0))).setCell ⟨gb177,1,none⟩ (.int .i64 ((rd_T52 l0_1 x6_1).f1))).heap[gb174]? =some (.cells #[.slice none 0 0,.slice none 0 0] 76 (0,0))):=⟨by(with_reducible repeat(first|refine blk_drewN ?_ _|refine blk_drew ?_|refine blk_alloc ?_ _));refine blk_far ?_ NB174_177.out _;(with_reducible repeat(first|refine blk_drewN ?_ _|refine blk_drew ?_|refine blk_alloc ?_ _));refine blk_far ?_ NB174_177.out _;(with_reducible repeat(first|refine blk_drewN ?_ _|refine blk_drew ?_|refine blk_alloc ?_ _));exact BK174.out⟩
        have n3_:Aside0 (((w16.setCell ⟨gb177,0,none⟩ (.int .i64 ((rd_T52 l0_1 x6_1).f0))).setCell ⟨gb177,1,none⟩ (.int .i64 ((rd_T52 l0_1 x6_1).f1))).heap[gb175]? =some (.cells #[u176000,.slice none 0 0] 76 (0,0))):=⟨by(with_reducible repeat(first|refine blk_drewN ?_ _|refine blk_drew ?_|refine blk_alloc ?_ _));refine blk_far ?_ NB175_177.out _;(with_reducible repeat(first|refine blk_drewN ?_ _|refine blk_drew ?_|refine blk_alloc ?_ _));refine blk_far ?_ NB175_177.out _;(with_reducible repeat(first|refine blk_drewN ?_ _|refine blk_drew ?_|refine blk_alloc ?_ _));exact BK175.out⟩
        have n4_:Aside0 (((w16.setCell ⟨gb177,0,none⟩ (.int .i64 ((rd_T52 l0_1 x6_1).f0))).setCell ⟨gb177,1,none⟩ (.int .i64 ((rd_T52 l0_1 x6_1).f1))).heap[gb177]? =some (.cells #[.int .i64 ((rd_T52 l0_1 x6_1).f0),.int .i64 ((rd_T52 l0_1 x6_1).f1)] 52 (0,0))):=⟨by(with_reducible repeat(first|refine blk_drewN ?_ _|refine blk_drew ?_|refine blk_alloc ?_ _));refine blk_put (cs:=#[.int .i64 ((rd_T52 l0_1 x6_1).f0),.int .i64 0]) ?_ 1 _ rfl;(with_reducible repeat(first|refine blk_drewN ?_ _|refine blk_drew ?_|refine blk_alloc ?_ _));refine blk_put (cs:=#[.int .i64 0,.int .i64 0]) ?_ 0 _ rfl;(with_reducible repeat(first|refine blk_drewN ?_ _|refine blk_drew ?_|refine blk_alloc ?_ _));exact BK177.out⟩
        have n5_:Aside0 (Below w.heap.size w ((w16.setCell ⟨gb177,0,none⟩ (.int .i64 ((rd_T52 l0_1 x6_1).f0))).setCell ⟨gb177,1,none⟩ (.int .i64 ((rd_T52 l0_1 x6_1).f1)))):=⟨by repeat(first|(with_reducible first|exact HB.out|apply below_alloc|apply pw_below_drewN|apply below_drew1|refine below_set ?_ GE173.out|refine below_set ?_ GE174.out|refine below_set ?_ GE175.out|refine below_set ?_ GE177.out)|exact HB.out)⟩
        (try clear HO_176000)
        (try clear BK173)
        (try clear BK174)
        (try clear BK175)
        (try clear BK177)
        (try clear HB)
        generalize ((w16.setCell ⟨gb177,0,none⟩ (.int .i64 ((rd_T52 l0_1 x6_1).f0))).setCell ⟨gb177,1,none⟩ (.int .i64 ((rd_T52 l0_1 x6_1).f1)))=w21 at n0_ n1_ n2_ n3_ n4_ n5_ ⊢
        have HO_176000:=n0_
        have BK173:=n1_
        have BK174:=n2_
        have BK175:=n3_
        have BK177:=n4_
        have HB:=n5_
        clear n0_ n1_ n2_ n3_ n4_ n5_
        have n0_:=Aside0.mk (Kd.R_drew HO_176000.out)
        have n1_:=Aside0.mk (blk_drew BK173.out)
        have n2_:=Aside0.mk (blk_drew BK174.out)
        have n3_:=Aside0.mk (blk_drew BK175.out)
        have n4_:=Aside0.mk (blk_drew BK177.out)
        have n5_:=Aside0.mk (below_drew1 HB.out)
        clear HO_176000
        clear BK173
        clear BK174
        clear BK175
        clear BK177
        clear HB
        have HO_176000:=n0_
        have BK173:=n1_
        have BK174:=n2_
        have BK175:=n3_
        have BK177:=n4_
        have HB:=n5_
        clear n0_ n1_ n2_ n3_ n4_ n5_
        refine start_ (n:=18) (S:=fun w'=>w'.cell? ⟨gb175,0,none⟩=some (u176000)∧w'.cell? ⟨gb175,1,none⟩=some (.slice none 0 0)∧w'.cell? ⟨gb177,0,none⟩=some (.int .i64 ((rd_T52 l0_1 x6_1).f0))∧w'.cell? ⟨gb177,1,none⟩=some (.int .i64 ((rd_T52 l0_1 x6_1).f1))) (ds:= [16]) #[false,false,false,false,false,false,false,false,false,false,false,false,false,false,false,false,false,false] (by kernel_rfl) rfl rfl ⟨(blk_cell BK175.out 0).trans rfl,(blk_cell BK175.out 1).trans rfl,(blk_cell BK177.out 0).trans rfl,(blk_cell BK177.out 1).trans rfl⟩ (fun hHeld=> ?_);refine with_tabW anilref06_Nth.tab6 anilref06_Nth.bits6 (fun HT_ HW_=> ?_)
        generalize w21.drew=w22 at HO_176000 BK173 BK174 BK175 BK177 HB hHeld ⊢
        refine pure_ (i:=0) (N:=some 22) (v:= ?_) (a':= ?_) #[true,false,false,false,false,false,false,false,false,false,false,false,false,false,false,false,false,false] rfl rfl (any_of HT_.out (by kernel_rfl)) (fun _ _ _ h=>h) (Or.inl ⟨by rfl,?_⟩) ?_ ?_
        rotate_left
        ·intro w'
         go_simp
         with_reducible rfl
        rotate_left
        ·simp only [Act.put,List.setIfInBounds_toArray,List.set_cons_zero,List.set_cons_succ,i64_w,i32_w]
         rfl
        refine pure_ (i:=2) (N:=some 24) (v:= ?_) (a':= ?_) #[true,false,true,false,false,false,false,false,false,false,false,false,false,false,false,false,false,false] rfl rfl (any_of HT_.out (by kernel_rfl)) (fun _ _ _ h=>h) (Or.inl ⟨by rfl,?_⟩) ?_ ?_
        rotate_left
        ·intro w'
         go_simp
         with_reducible rfl
        rotate_left
        ·simp only [Act.put,List.setIfInBounds_toArray,List.set_cons_zero,List.set_cons_succ,i64_w,i32_w]
         rfl
        refine pure_ (i:=4) (N:=some 26) (v:= ?_) (a':= ?_) #[true,false,true,false,true,false,false,false,false,false,false,false,false,false,false,false,false,false] rfl rfl (any_of HT_.out (by kernel_rfl)) (fun _ _ _ h=>h) (Or.inl ⟨by rfl,?_⟩) ?_ ?_
        rotate_left
        ·intro w'
         go_simp
         with_reducible rfl
        rotate_left
        ·simp only [Act.put,List.setIfInBounds_toArray,List.set_cons_zero,List.set_cons_succ,i64_w,i32_w]
         rfl
        refine pure_ (i:=11) (N:=some 33) (v:= ?_) (a':= ?_) #[true,false,true,false,true,false,false,false,false,false,false,true,false,false,false,false,false,false] rfl rfl (any_of HT_.out (by kernel_rfl)) (fun _ _ _ h=>h) (Or.inl ⟨by rfl,?_⟩) ?_ ?_
        rotate_left
        ·intro w'
         go_simp
         with_reducible rfl
        rotate_left
        ·simp only [Act.put,List.setIfInBounds_toArray,List.set_cons_zero,List.set_cons_succ,i64_w,i32_w]
         rfl
        refine take_ (i:=1) (N:=some 23) (v:= ?_) (a':= ?_) #[true,true,true,false,true,false,false,false,false,false,false,true,false,false,false,false,false,false] rfl rfl (take_ofW HT_.out HW_.out (by kernel_rfl)) (fun _ _ _ h=>h) (Or.inl ⟨by rfl,?_⟩) hHeld ?_ ?_
        rotate_left
        ·rintro w' ⟨s0,s1,s2,s3⟩
         go_simp
         with_reducible rfl
        rotate_left
        ·simp only [Act.put,List.setIfInBounds_toArray,List.set_cons_zero,List.set_cons_succ,i64_w,i32_w]
         rfl
        refine take_ (i:=3) (N:=some 25) (v:= ?_) (a':= ?_) #[true,true,true,true,true,false,false,false,false,false,false,true,false,false,false,false,false,false] rfl rfl (take_ofW HT_.out HW_.out (by kernel_rfl)) (fun _ _ _ h=>h) (Or.inl ⟨by rfl,?_⟩) hHeld ?_ ?_
        rotate_left
        ·rintro w' ⟨s0,s1,s2,s3⟩
         go_simp
         with_reducible rfl
        rotate_left
        ·simp only [Act.put,List.setIfInBounds_toArray,List.set_cons_zero,List.set_cons_succ,i64_w,i32_w]
         rfl
        refine take_ (i:=5) (N:=some 27) (v:= ?_) (a':= ?_) #[true,true,true,true,true,true,false,false,false,false,false,true,false,false,false,false,false,false] rfl rfl (take_ofW HT_.out HW_.out (by kernel_rfl)) (fun _ _ _ h=>h) (Or.inl ⟨by rfl,?_⟩) hHeld ?_ ?_
        rotate_left
        ·rintro w' ⟨s0,s1,s2,s3⟩
         go_simp
         with_reducible rfl
        rotate_left
        ·simp only [Act.put,List.setIfInBounds_toArray,List.set_cons_zero,List.set_cons_succ,i64_w,i32_w]
         rfl
        refine take_ (i:=12) (N:=some 34) (v:= ?_) (a':= ?_) #[true,true,true,true,true,true,false,false,false,false,false,true,true,false,false,false,false,false] rfl rfl (take_ofW HT_.out HW_.out (by kernel_rfl)) (fun _ _ _ h=>h) (Or.inl ⟨by rfl,?_⟩) hHeld ?_ ?_
        rotate_left
        ·rintro w' ⟨s0,s1,s2,s3⟩
         go_simp
         with_reducible rfl
        rotate_left
        ·simp only [Act.put,List.setIfInBounds_toArray,List.set_cons_zero,List.set_cons_succ,i64_w,i32_w]
         rfl
        refine one_ (i:=6) (N:=some 28) #[true,true,true,true,true,true,true,false,false,false,false,true,true,false,false,false,false,false] rfl rfl (one_of HT_.out (by kernel_rfl)) (by decide) (fun K hK=> ?_)
        refine goes_ Try.func95 (by kernel_rfl) rfl #[.agg #[.int .i64 ((rd_T52 l0_1 x6_1).f0),.int .i64 ((rd_T52 l0_1 x6_1).f1)]] (by rfl) rfl rfl (by(try simp only [List.map_toArray,List.map_cons,List.map_nil]);first|done|rfl|(simp only [List.length_drop,List.length_take];rfl)) ?_
        with_reducible refine(anilref06_Size.calls ((rd_T52 l0_1 x6_1).f0) ((rd_T52 l0_1 x6_1).f1) t178 _ A8.out).mono ?_
        rintro e w23 ⟨rfl,hb⟩
        refine⟨_,rfl,?_⟩
        have n0_:=Aside0.mk (Kd.R_below (by(with_reducible repeat(first|apply Kd.R_alloc|apply Kd.R_drewN|apply Kd.R_drew));exact HO_176000.out) hb)
        have n1_:=Aside0.mk (blk_below (g:=gb173) (o:= .cells #[.int .i64 a0_0,.slice (some ad176) l0_1.length c0_1,.slice A0_2 l0_2.length c0_2,.slice A0_3 l0_3.length c0_3,.slice A0_4 l0_4.length c0_4,.slice A0_5 l0_5.length c0_5] 28 (0,0)) (by(with_reducible repeat(first|refine blk_drewN ?_ _|refine blk_drew ?_|refine blk_alloc ?_ _));exact BK173.out) hb)
        have n2_:=Aside0.mk (blk_below (g:=gb174) (o:= .cells #[.slice none 0 0,.slice none 0 0] 76 (0,0)) (by(with_reducible repeat(first|refine blk_drewN ?_ _|refine blk_drew ?_|refine blk_alloc ?_ _));exact BK174.out) hb)
        have n3_:=Aside0.mk (blk_below (g:=gb175) (o:= .cells #[u176000,.slice none 0 0] 76 (0,0)) (by(with_reducible repeat(first|refine blk_drewN ?_ _|refine blk_drew ?_|refine blk_alloc ?_ _));exact BK175.out) hb)
        have n4_:=Aside0.mk (blk_below (g:=gb177) (o:= .cells #[.int .i64 ((rd_T52 l0_1 x6_1).f0),.int .i64 ((rd_T52 l0_1 x6_1).f1)] 52 (0,0)) (by(with_reducible repeat(first|refine blk_drewN ?_ _|refine blk_drew ?_|refine blk_alloc ?_ _));exact BK177.out) hb)
        have n5_:=Aside0.mk (below_step (by repeat(first|(with_reducible first|exact HB.out|apply below_alloc|apply pw_below_drewN|apply below_drew1|refine below_set ?_ GE173.out|refine below_set ?_ GE174.out|refine below_set ?_ GE175.out|refine below_set ?_ GE177.out)|exact HB.out)) hb)
        clear HO_176000
        clear BK173
        clear BK174
        clear BK175
        clear BK177
        clear HB
        have HO_176000:=n0_
        have BK173:=n1_
        have BK174:=n2_
        have BK175:=n3_
        have BK177:=n4_
        have HB:=n5_
        clear n0_ n1_ n2_ n3_ n4_ n5_
        (try clear hb)
        (try clear hb2)
        (try clear hk)
        (try clear hi)
        refine hK.out _ _ ⟨(blk_cell BK175.out 0).trans rfl,(blk_cell BK175.out 1).trans rfl,(blk_cell BK177.out 0).trans rfl,(blk_cell BK177.out 1).trans rfl⟩ (fun hHeld=> ?_)
        clear hK K
        refine norm_ (a':= ?_) ?_ ?_
        rotate_left
        ·show Act.put _ (some 28) _=_
         simp only [Act.put,List.setIfInBounds_toArray,List.set_cons_zero,List.set_cons_succ,i64_w,i32_w]
         rfl
        refine pure_ (i:=7) (N:=some 29) (v:= ?_) (a':= ?_) #[true,true,true,true,true,true,true,true,false,false,false,true,true,false,false,false,false,false] rfl rfl (any_of HT_.out (by kernel_rfl)) (fun _ _ _ h=>h) (Or.inl ⟨by rfl,?_⟩) ?_ ?_
        rotate_left
        ·intro w'
         go_simp
         with_reducible rfl
        rotate_left
        ·simp only [Act.put,List.setIfInBounds_toArray,List.set_cons_zero,List.set_cons_succ,i64_w,i32_w]
         rfl
        refine pure_ (i:=8) (N:=some 30) (v:= ?_) (a':= ?_) #[true,true,true,true,true,true,true,true,true,false,false,true,true,false,false,false,false,false] rfl rfl (any_of HT_.out (by kernel_rfl)) (fun _ _ _ h=>h) (Or.inl ⟨by rfl,?_⟩) ?_ ?_
        rotate_left
        ·intro w'
         go_simp
         with_reducible rfl
        rotate_left
        ·simp only [Act.put,List.setIfInBounds_toArray,List.set_cons_zero,List.set_cons_succ,i64_w,i32_w]
         rfl
        refine one_ (i:=9) (N:=some 31) #[true,true,true,true,true,true,true,true,true,true,false,true,true,false,false,false,false,false] rfl rfl (one_of HT_.out (by kernel_rfl)) (by decide) (fun K hK=> ?_)
        refine value_ (w1:= ?_) (v:= ?_) (by rfl) rfl ?_ ?_
        rotate_left 2
        ·go_simp
         constructor
         ·rfl
         ·rfl
        refine hK.out _ _ ⟨(blk_cell (blk_alloc BK175.out _) 0).trans rfl,(blk_cell (blk_alloc BK175.out _) 1).trans rfl,(blk_cell (blk_alloc BK177.out _) 0).trans rfl,(blk_cell (blk_alloc BK177.out _) 1).trans rfl⟩ (fun hHeld=> ?_)
        clear hK K
        refine norm_ (a':= ?_) ?_ ?_
        rotate_left
        ·show Act.put _ (some 31) _=_
         simp only [Act.put,List.setIfInBounds_toArray,List.set_cons_zero,List.set_cons_succ,i64_w,i32_w]
         rfl
        refine one_ (i:=10) (N:=some 32) #[true,true,true,true,true,true,true,true,true,true,true,true,true,false,false,false,false,false] rfl rfl (one_of HT_.out (by kernel_rfl)) (by decide) (fun K hK=> ?_)
        refine Kd.R_append_step (Kd.int .i64) (w0:=w) w.heap.size (by rfl) (.tmp 23) (.tmp 31) 25 3 (.int .i64 0) 8 rfl Try.underlying25 info3 rfl (by decide) (by omega) u176000 x176000_1 (wrap64 (((rd_T52 l0_1 x6_1).f0)+(Int.tmod x1_1 t178))) [.int .i64 (wrap64 (((rd_T52 l0_1 x6_1).f0)+(Int.tmod x1_1 t178)))] (fun _=>True) (fun _=>False) rfl rfl ?aP (fun _ hk=>hk.elim) ?aF ?aO ?aB ?aS ?aL ?_
        (case aP=>exact rfl)
        (case aB=>exact(by repeat(first|(with_reducible first|exact HB.out|apply below_alloc|apply pw_below_drewN|apply below_drew1|refine below_set ?_ GE173.out|refine below_set ?_ GE174.out|refine below_set ?_ GE175.out|refine below_set ?_ GE177.out)|exact HB.out)))
        (case aF=>exact(fun _ _=>trivial))
        (case aO=>exact(by(with_reducible repeat(first|apply Kd.R_alloc|apply Kd.R_drewN|apply Kd.R_drew));exact HO_176000.out))
        (case aS=>exact(below_size (by repeat(first|(with_reducible first|exact HB.out|apply below_alloc|apply pw_below_drewN|apply below_drew1|refine below_set ?_ GE173.out|refine below_set ?_ GE174.out|refine below_set ?_ GE175.out|refine below_set ?_ GE177.out)|exact HB.out))))
        (case aL=>have:=LMc10.out;omega)
        intro v180 w24 ho hb hg hat
        rw [←Ny179.out]at ho
        have n0_:=Aside0.mk (blk_grown (g:=gb173) (o:= .cells #[.int .i64 a0_0,.slice (some ad176) l0_1.length c0_1,.slice A0_2 l0_2.length c0_2,.slice A0_3 l0_3.length c0_3,.slice A0_4 l0_4.length c0_4,.slice A0_5 l0_5.length c0_5] 28 (0,0)) (by(with_reducible repeat(first|refine blk_drewN ?_ _|refine blk_drew ?_|refine blk_alloc ?_ _));exact BK173.out) hg (Kd.R_ne HO_176000.out BK173.out (by decide)))
        have n1_:=Aside0.mk (blk_grown (g:=gb174) (o:= .cells #[.slice none 0 0,.slice none 0 0] 76 (0,0)) (by(with_reducible repeat(first|refine blk_drewN ?_ _|refine blk_drew ?_|refine blk_alloc ?_ _));exact BK174.out) hg (Kd.R_ne HO_176000.out BK174.out (by decide)))
        have n2_:=Aside0.mk (blk_grown (g:=gb175) (o:= .cells #[u176000,.slice none 0 0] 76 (0,0)) (by(with_reducible repeat(first|refine blk_drewN ?_ _|refine blk_drew ?_|refine blk_alloc ?_ _));exact BK175.out) hg (Kd.R_ne HO_176000.out BK175.out (by decide)))
        have n3_:=Aside0.mk (blk_grown (g:=gb177) (o:= .cells #[.int .i64 ((rd_T52 l0_1 x6_1).f0),.int .i64 ((rd_T52 l0_1 x6_1).f1)] 52 (0,0)) (by(with_reducible repeat(first|refine blk_drewN ?_ _|refine blk_drew ?_|refine blk_alloc ?_ _));exact BK177.out) hg (Kd.R_ne HO_176000.out BK177.out (by decide)))
        have n4_:=Aside0.mk (hb)
        have n5_:=Aside0.mk (ho)
        clear BK173
        clear BK174
        clear BK175
        clear BK177
        clear HB
        clear HO_176000
        have BK173:=n0_
        have BK174:=n1_
        have BK175:=n2_
        have BK177:=n3_
        have HB:=n4_
        have HO181:=n5_
        clear n0_ n1_ n2_ n3_ n4_ n5_
        clear ho hb hg hat
        refine hK.out _ _ ⟨(blk_cell BK175.out 0).trans rfl,(blk_cell BK175.out 1).trans rfl,(blk_cell BK177.out 0).trans rfl,(blk_cell BK177.out 1).trans rfl⟩ (fun hHeld=> ?_)
        clear hK K
        refine norm_ (a':= ?_) ?_ ?_
        rotate_left
        ·show Act.put _ (some 32) _=_
         simp only [Act.put,List.setIfInBounds_toArray,List.set_cons_zero,List.set_cons_succ,i64_w,i32_w]
         rfl
        refine pure_ (i:=15) (N:=some 37) (v:= ?_) (a':= ?_) #[true,true,true,true,true,true,true,true,true,true,true,true,true,false,false,true,false,false] rfl rfl (any_of HT_.out (by kernel_rfl)) (fun _ _ _ h=>h) (Or.inl ⟨by rfl,?_⟩) ?_ ?_
        rotate_left
        ·intro w'
         go_simp
         with_reducible rfl
        rotate_left
        ·simp only [Act.put,List.setIfInBounds_toArray,List.set_cons_zero,List.set_cons_succ,i64_w,i32_w]
         rfl
        refine one_ (i:=13) (N:=some 35) #[true,true,true,true,true,true,true,true,true,true,true,true,true,true,false,true,false,false] rfl rfl (one_of HT_.out (by kernel_rfl)) (by decide) (fun K hK=> ?_)
        refine goes_ Try.func95 (by kernel_rfl) rfl #[.agg #[.int .i64 ((rd_T52 l0_1 x6_1).f0),.int .i64 ((rd_T52 l0_1 x6_1).f1)]] (by rfl) rfl rfl (by(try simp only [List.map_toArray,List.map_cons,List.map_nil]);first|done|rfl|(simp only [List.length_drop,List.length_take];rfl)) ?_
        with_reducible refine(anilref06_Size.calls ((rd_T52 l0_1 x6_1).f0) ((rd_T52 l0_1 x6_1).f1) t182 _ A11.out).mono ?_
        rintro e w25 ⟨rfl,hb⟩
        refine⟨_,rfl,?_⟩
        have n0_:=Aside0.mk (Kd.R_below (by(with_reducible repeat(first|apply Kd.R_alloc|apply Kd.R_drewN|apply Kd.R_drew));exact HO181.out) hb)
        have n1_:=Aside0.mk (blk_below (g:=gb173) (o:= .cells #[.int .i64 a0_0,.slice (some ad176) l0_1.length c0_1,.slice A0_2 l0_2.length c0_2,.slice A0_3 l0_3.length c0_3,.slice A0_4 l0_4.length c0_4,.slice A0_5 l0_5.length c0_5] 28 (0,0)) (by(with_reducible repeat(first|refine blk_drewN ?_ _|refine blk_drew ?_|refine blk_alloc ?_ _));exact BK173.out) hb)
        have n2_:=Aside0.mk (blk_below (g:=gb174) (o:= .cells #[.slice none 0 0,.slice none 0 0] 76 (0,0)) (by(with_reducible repeat(first|refine blk_drewN ?_ _|refine blk_drew ?_|refine blk_alloc ?_ _));exact BK174.out) hb)
        have n3_:=Aside0.mk (blk_below (g:=gb175) (o:= .cells #[u176000,.slice none 0 0] 76 (0,0)) (by(with_reducible repeat(first|refine blk_drewN ?_ _|refine blk_drew ?_|refine blk_alloc ?_ _));exact BK175.out) hb)
        have n4_:=Aside0.mk (blk_below (g:=gb177) (o:= .cells #[.int .i64 ((rd_T52 l0_1 x6_1).f0),.int .i64 ((rd_T52 l0_1 x6_1).f1)] 52 (0,0)) (by(with_reducible repeat(first|refine blk_drewN ?_ _|refine blk_drew ?_|refine blk_alloc ?_ _));exact BK177.out) hb)
        have n5_:=Aside0.mk (below_step (by repeat(first|(with_reducible first|exact HB.out|apply below_alloc|apply pw_below_drewN|apply below_drew1|refine below_set ?_ GE173.out|refine below_set ?_ GE174.out|refine below_set ?_ GE175.out|refine below_set ?_ GE177.out)|exact HB.out)) hb)
        clear HO181
        clear BK173
        clear BK174
        clear BK175
        clear BK177
        clear HB
        have HO181:=n0_
        have BK173:=n1_
        have BK174:=n2_
        have BK175:=n3_
        have BK177:=n4_
        have HB:=n5_
        clear n0_ n1_ n2_ n3_ n4_ n5_
        (try clear hb)
        (try clear hb2)
        (try clear hk)
        (try clear hi)
        obtain⟨Ao26,co26,eo26⟩:=Kd.R_slice HO181.out
        (first|subst eo26|(injection eo26 with f1_ f2_ f3_;have f4_:=f1_.symm;have f5_:=f3_.symm;clear f1_ f2_ f3_;subst f4_;subst f5_))
        refine hK.out _ _ ⟨(blk_cell BK175.out 0).trans rfl,(blk_cell BK175.out 1).trans rfl,(blk_cell BK177.out 0).trans rfl,(blk_cell BK177.out 1).trans rfl⟩ (fun hHeld=> ?_)
        clear hK K
        refine norm_ (a':= ?_) ?_ ?_
        rotate_left
        ·show Act.put _ (some 35) _=_
         simp only [Act.put,List.setIfInBounds_toArray,List.set_cons_zero,List.set_cons_succ,i64_w,i32_w]
         rfl
        refine pure_ (i:=14) (N:=some 36) (v:= ?_) (a':= ?_) #[true,true,true,true,true,true,true,true,true,true,true,true,true,true,true,true,false,false] rfl rfl (any_of HT_.out (by kernel_rfl)) (fun _ _ _ h=>h) (Or.inl ⟨by rfl,?_⟩) ?_ ?_
        rotate_left
        ·intro w'
         go_simp
         with_reducible rfl
        rotate_left
        ·simp only [Act.put,List.setIfInBounds_toArray,List.set_cons_zero,List.set_cons_succ,i64_w,i32_w]
         rfl
        refine last_ (i:=16) (N:=none) #[true,true,true,true,true,true,true,true,true,true,true,true,true,true,true,true,true,false] rfl rfl (one_of HT_.out (by kernel_rfl)) (by decide) (fun K hK=> ?_)
        have hs27:w25.cell? ⟨gb175,0,none⟩=some (u176000):=(blk_cell BK175.out 0).trans rfl
        have hfs27:=blk_frozen BK175.out 0
        have hns27_0:=NB173_175.out
        have hns27_1:=NB174_175.out
        have hns27_3:=NB177_175.out
        have hms27_0:=NB175_173.out
        have hms27_1:=NB175_174.out
        have hms27_3:=NB175_177.out
        refine skip_ (w1:= ?_) (by rfl) rfl ?_ ?_
        rotate_left
        ·go_simp
         rfl
        refine hK.out _ _ ?_
        clear hK K
        refine pure_ (i:=17) (N:=some 1) (v:= ?_) (a':= ?_) #[true,true,true,true,true,true,true,true,true,true,true,true,true,true,true,true,true,true] rfl rfl (any_of HT_.out (by kernel_rfl)) (fun _ _ _ h=>h) (Or.inl ⟨by rfl,?_⟩) ?_ ?_
        rotate_left
        ·intro w'
         go_simp
         with_reducible rfl
        rotate_left
        ·simp only [Act.put,List.setIfInBounds_toArray,List.set_cons_zero,List.set_cons_succ,i64_w,i32_w]
         rfl
        refine done_ (done_of HT_.out (by kernel_rfl)) ?_
        try go_wp2
        go_roundg k1
        case measure=>have:=HK1.out;omega
        case rel=>exact⟨(wrap64 (Int.tdiv x1_1 t182)),(wrap64 (x6_1+1)),(y179),(.slice Ao26 y179.length co26),(by first|rfl|(simp;done)|(simp [*];done)),(by first|rfl|(simp;done)|(simp [*];done)),H',⟨by have:=HK1.out;omega⟩,⟨by(with_reducible repeat(first|apply Kd.R_alloc|apply Kd.R_drewN|apply Kd.R_drew));exact Kd.R_mono (Kd.R_far (p:=⟨gb175,0,none⟩) (Kd.R_types HO181.out BK175.out (by decide)) (fun _ hk=>hk.2) (.slice Ao26 y179.length co26)) (fun _ hk=>trivial)⟩,⟨by(with_reducible repeat(first|refine blk_drewN ?_ _|refine blk_drew ?_|refine blk_alloc ?_ _));refine blk_far ?_ NB173_175.out _;(with_reducible repeat(first|refine blk_drewN ?_ _|refine blk_drew ?_|refine blk_alloc ?_ _));exact BK173.out⟩,⟨by(with_reducible repeat(first|refine blk_drewN ?_ _|refine blk_drew ?_|refine blk_alloc ?_ _));refine blk_far ?_ NB174_175.out _;(with_reducible repeat(first|refine blk_drewN ?_ _|refine blk_drew ?_|refine blk_alloc ?_ _));exact BK174.out⟩,⟨by(with_reducible repeat(first|refine blk_drewN ?_ _|refine blk_drew ?_|refine blk_alloc ?_ _));refine blk_put (cs:=#[u176000,.slice none 0 0]) ?_ 0 _ rfl;(with_reducible repeat(first|refine blk_drewN ?_ _|refine blk_drew ?_|refine blk_alloc ?_ _));exact BK175.out⟩,⟨by repeat(first|(with_reducible first|exact HB.out|apply below_alloc|apply pw_below_drewN|apply below_drew1|refine below_set ?_ GE173.out|refine below_set ?_ GE174.out|refine below_set ?_ GE175.out|refine below_set ?_ GE177.out)|exact HB.out)⟩⟩
      ·rw [if_neg c10]at H
       exact absurd H (by simp)
    ·rw [if_neg c7]at H
     exact absurd H (by simp)
   ·rw [if_neg c6]at H
    have c6b0:decide (x6_1 <(l0_1.length:Int))=false:=decide_eq_false c6
    clear c6
    have H':=Aside0.mk H
    clear H
    have hnb28:=NB173_174.out
    have hnc28:=NB174_173.out
    have hnb29:=NB173_175.out
    have hnc29:=NB175_173.out
    have hcz30_0:wr.cell? ⟨gb173,0,none⟩=some (.int .i64 a0_0):=(blk_cell BK173.out 0).trans rfl
    have hcz30_1:wr.cell? ⟨gb173,1,none⟩=some (.slice A0_1 l0_1.length c0_1):=(blk_cell BK173.out 1).trans rfl
    have hcz30_2:wr.cell? ⟨gb173,2,none⟩=some (.slice A0_2 l0_2.length c0_2):=(blk_cell BK173.out 2).trans rfl
    have hcz30_3:wr.cell? ⟨gb173,3,none⟩=some (.slice A0_3 l0_3.length c0_3):=(blk_cell BK173.out 3).trans rfl
    have hcz30_4:wr.cell? ⟨gb173,4,none⟩=some (.slice A0_4 l0_4.length c0_4):=(blk_cell BK173.out 4).trans rfl
    have hcz30_5:wr.cell? ⟨gb173,5,none⟩=some (.slice A0_5 l0_5.length c0_5):=(blk_cell BK173.out 5).trans rfl
    have hfz30_0:=blk_frozen BK173.out 0
    have hfz30_1:=blk_frozen BK173.out 1
    have hfz30_2:=blk_frozen BK173.out 2
    have hfz30_3:=blk_frozen BK173.out 3
    have hfz30_4:=blk_frozen BK173.out 4
    have hfz30_5:=blk_frozen BK173.out 5
    go_wp2
    go_loopg [1,8] k1 (fun kq v1 v8 w'=>∃(x1_2:Int) (x8_2:Int) (x176001_2:List Int) (u176001:Value),v1= .int .i64 x1_2∧v8= .int .i64 x8_2∧Aside0 (anilref06_Nth.l1 kq x1_2 x8_2 a0_0 l0_1 l0_2 l0_3 l0_4 l0_5 x176000_1 x176001_2=some (r1,r2))∧Aside0 (kq≤k1)∧Aside0 (Kd.R (Kd.int .i64) 3 w' w.heap.size (fun k_=>some k_≠(u176001:Value).ownBlock) u176000 x176000_1)∧Aside0 (Kd.R (Kd.int .i64) 3 w' w.heap.size (fun k_=>some k_≠(u176000:Value).ownBlock) u176001 x176001_2)∧Aside0 (w'.heap[gb173]? =some (.cells #[.int .i64 a0_0,(.slice A0_1 l0_1.length c0_1),(.slice A0_2 l0_2.length c0_2),(.slice A0_3 l0_3.length c0_3),(.slice A0_4 l0_4.length c0_4),(.slice A0_5 l0_5.length c0_5)] 28 (0,0)))∧Aside0 (w'.heap[gb174]? =some (.cells #[(.slice none 0 0),(.slice none 0 0)] 76 (0,0)))∧Aside0 (w'.heap[gb175]? =some (.cells #[u176000,u176001] 76 (0,0)))∧Aside0 (Below w.heap.size w w'))
    case atStart=>exact⟨(x1_1),(0),(([]:List Int)),(.slice none 0 0),(by first|rfl|(simp;done)|(simp [*];done)),(by first|rfl|(simp;done)|(simp [*];done)),H',⟨Nat.le_refl _⟩,⟨by(with_reducible repeat(first|apply Kd.R_alloc|apply Kd.R_drewN|apply Kd.R_drew));exact Kd.R_mono HO_176000.out (fun _ hk=>(by simp [Value.ownBlock]))⟩,⟨by first|exact Kd.R_nil _ _ _ _ _|exact Kd.N_nil _ _ _ _ _|exact Kd.V_nil _ _ _ _ _|exact Kd.Q_nil _ _ _ _ _|exact Kd.S_nil _ _ _ _ _⟩,⟨by(with_reducible repeat(first|refine blk_drewN ?_ _|refine blk_drew ?_|refine blk_alloc ?_ _));exact BK173.out⟩,⟨by(with_reducible repeat(first|refine blk_drewN ?_ _|refine blk_drew ?_|refine blk_alloc ?_ _));exact BK174.out⟩,⟨by(with_reducible repeat(first|refine blk_drewN ?_ _|refine blk_drew ?_|refine blk_alloc ?_ _));exact BK175.out⟩,⟨by repeat(first|(with_reducible first|exact HB.out|apply below_alloc|apply pw_below_drewN|apply below_drew1|refine below_set ?_ GE173.out|refine below_set ?_ GE174.out|refine below_set ?_ GE175.out)|exact HB.out)⟩⟩
    case round=>
     clear H'
     try clear c1
     try clear p1
     try clear q1
     try clear hx1
     try clear c2
     try clear p2
     try clear c4
     try clear c6
     try clear c6b0
     try clear p6
     try clear c7
     try clear c7b0
     try clear c9
     try clear c9b0
     try clear c9b1
     try clear c10
     try clear c12
     try clear c12b0
     try clear c12b1
     try clear c13
     try clear c14
     try clear c17
     try clear p17
     try clear q17
     try clear hx17
     try clear c18
     try clear c19
     try clear c28
     try clear c29
     try clear hcz15_0
     try clear hcz15_1
     try clear hcz15_2
     try clear hcz15_3
     try clear hcz15_4
     try clear hcz15_5
     try clear hcz20_0
     try clear hcz20_1
     try clear hcz30_0
     try clear hcz30_1
     try clear hcz30_2
     try clear hcz30_3
     try clear hcz30_4
     try clear hcz30_5
     try clear hfz15_0
     try clear hfz15_1
     try clear hfz15_2
     try clear hfz15_3
     try clear hfz15_4
     try clear hfz15_5
     try clear hfz20_0
     try clear hfz20_1
     try clear hfz30_0
     try clear hfz30_1
     try clear hfz30_2
     try clear hfz30_3
     try clear hfz30_4
     try clear hfz30_5
     try clear hx176_0
     try clear hx176_1
     try clear p176
     try clear p2
     try clear q176
     obtain⟨x1_2,x8_2,x176001_2,u176001,rfl,rfl,HA,HK2,HO_176000,HO_176001,BK173,BK174,BK175,HB⟩:=hrel
     cases gk with
     |zero=>exact absurd HA.out (by simp [anilref06_Nth.l1])
     |succ k2=>
      have H:=HA.out
      clear HA
      simp only [anilref06_Nth.l1]at H
      by_cases c31:x8_2 <(l0_3.length:Int)
      ·rw [if_pos c31]at H
       have c31b0:decide (x8_2 <(l0_3.length:Int))=true:=decide_eq_true c31
       clear c31
       by_cases c32:0≤x8_2
       ·rw [if_pos c32]at H
        have c32b0:decide (0≤x8_2)=true:=decide_eq_true c32
        clear c32
        replace H:=Option.bind_eq_some_iff.mp H
        obtain⟨t185,A330,H⟩:=H
        replace H:(if t185=0 then(none)else(if x176001_2.length < 17592186044416 then((anilref06_Size.f ((rd_T54 l0_3 x8_2).f1.f0) ((rd_T54 l0_3 x8_2).f1.f1)).bind fun t189=>(if t189=0 then(none)else(anilref06_Nth.l1 k2 (wrap64 (Int.tdiv x1_2 t189)) (wrap64 (x8_2+1)) a0_0 l0_1 l0_2 l0_3 l0_4 l0_5 x176000_1 (x176001_2++ [wrap64 (((rd_T54 l0_3 x8_2).f1.f0)+(Int.tmod x1_2 t185))]))))else(none)))=some (r1,r2):=H
        have A33:=Aside0.mk A330
        clear A330
        by_cases c34:t185=0
        ·rw [if_pos c34]at H
         exact absurd H (by simp)
        ·rw [if_neg c34]at H
         have c34b0:(t185==0)=false:=beq_eq_false_iff_ne.mpr c34
         have c34b1:(t185 !=0)=true:=bne_iff_ne.mpr c34
         by_cases c35:x176001_2.length < 17592186044416
         ·rw [if_pos c35]at H
          have LMc35:=Aside0.mk c35
          clear c35
          obtain⟨y186,hy186⟩:∃y_:List Int,y_=(x176001_2++ [wrap64 (((rd_T54 l0_3 x8_2).f1.f0)+(Int.tmod x1_2 t185))]):=⟨_,rfl⟩
          replace H:((anilref06_Size.f ((rd_T54 l0_3 x8_2).f1.f0) ((rd_T54 l0_3 x8_2).f1.f1)).bind fun t189=>(if t189=0 then(none)else(anilref06_Nth.l1 k2 (wrap64 (Int.tdiv x1_2 t189)) (wrap64 (x8_2+1)) a0_0 l0_1 l0_2 l0_3 l0_4 l0_5 x176000_1 y186)))=some (r1,r2):=by first|(rw [hy186];with_reducible exact H)|(have H2_:=(Option.bind_some _ _).symm.trans H;rw [hy186];with_reducible exact H2_)|(have H2_:=(Option.bind_some _ _).symm.trans H;with_reducible exact H2_)|with_reducible exact H|(rw [hy186];exact H)|exact H
          have Ny186:=Aside0.mk hy186
          clear hy186
          replace H:=Option.bind_eq_some_iff.mp H
          obtain⟨t189,A360,H⟩:=H
          replace H:(if t189=0 then(none)else(anilref06_Nth.l1 k2 (wrap64 (Int.tdiv x1_2 t189)) (wrap64 (x8_2+1)) a0_0 l0_1 l0_2 l0_3 l0_4 l0_5 x176000_1 y186))=some (r1,r2):=H
          have A36:=Aside0.mk A360
          clear A360
          by_cases c37:t189=0
          ·rw [if_pos c37]at H
           exact absurd H (by simp)
          ·rw [if_neg c37]at H
           have c37b0:(t189==0)=false:=beq_eq_false_iff_ne.mpr c37
           have c37b1:(t189 !=0)=true:=bne_iff_ne.mpr c37
           have H':=Aside0.mk H
           clear H
           have hnb38:=NB173_174.out
           have hnc38:=NB174_173.out
           have hnb39:=NB173_175.out
           have hnc39:=NB175_173.out
           have hcz40_0:wr.cell? ⟨gb173,0,none⟩=some (.int .i64 a0_0):=(blk_cell BK173.out 0).trans rfl
           have hcz40_1:wr.cell? ⟨gb173,1,none⟩=some (.slice A0_1 l0_1.length c0_1):=(blk_cell BK173.out 1).trans rfl
           have hcz40_2:wr.cell? ⟨gb173,2,none⟩=some (.slice A0_2 l0_2.length c0_2):=(blk_cell BK173.out 2).trans rfl
           have hcz40_3:wr.cell? ⟨gb173,3,none⟩=some (.slice A0_3 l0_3.length c0_3):=(blk_cell BK173.out 3).trans rfl
           have hcz40_4:wr.cell? ⟨gb173,4,none⟩=some (.slice A0_4 l0_4.length c0_4):=(blk_cell BK173.out 4).trans rfl
           have hcz40_5:wr.cell? ⟨gb173,5,none⟩=some (.slice A0_5 l0_5.length c0_5):=(blk_cell BK173.out 5).trans rfl
           have hfz40_0:=blk_frozen BK173.out 0
           have hfz40_1:=blk_frozen BK173.out 1
           have hfz40_2:=blk_frozen BK173.out 2
           have hfz40_3:=blk_frozen BK173.out 3
           have hfz40_4:=blk_frozen BK173.out 4
           have hfz40_5:=blk_frozen BK173.out 5
           have p183:0≤(x8_2:Int):=of_decide_eq_true (by first|(with_reducible assumption)|assumption)
           have q183:x8_2 <(l0_3.length:Int):=of_decide_eq_true (by first|(with_reducible assumption)|assumption)
           obtain⟨ad183,e183,hx183_0,hx183_1,hx183_2,hx183_3⟩:=at_T54 HR0_3.out x8_2 p183 q183
           cases e183
           replace hx183_0:=(HB.out.cell (World.block_lt_of_cell? w _ hx183_0)).trans hx183_0
           replace hx183_1:=(HB.out.cell (World.block_lt_of_cell? w _ hx183_1)).trans hx183_1
           replace hx183_2:=(HB.out.cell (World.block_lt_of_cell? w _ hx183_2)).trans hx183_2
           replace hx183_3:=(HB.out.cell (World.block_lt_of_cell? w _ hx183_3)).trans hx183_3
           replace p183:=eq_true p183
           replace q183:=eq_true q183
           try go_wp2_with (first|((with_reducible refine gate_dst (N:=9) rfl ?_);refine box_event ?hg (N:=9) ?hd (cs:=#[.int .i64 0,.int .i64 0]) (t:=52) ?hr ?_;(case hd=>rfl);(case hg=>rfl);(case hr=>first|(go_simp;done)|(go_simp;rfl));intro gb184 hg w41 hbox hb;have n0_:=Aside0.mk (Kd.R_below (by(with_reducible repeat(first|apply Kd.R_alloc|apply Kd.R_drewN|apply Kd.R_drew));exact HO_176000.out) hb);have n1_:=Aside0.mk (Kd.R_below (by(with_reducible repeat(first|apply Kd.R_alloc|apply Kd.R_drewN|apply Kd.R_drew));exact HO_176001.out) hb);have n2_:=Aside0.mk (blk_below (g:=gb173) (o:= .cells #[.int .i64 a0_0,.slice A0_1 l0_1.length c0_1,.slice A0_2 l0_2.length c0_2,.slice (some ad183) l0_3.length c0_3,.slice A0_4 l0_4.length c0_4,.slice A0_5 l0_5.length c0_5] 28 (0,0)) (by(with_reducible repeat(first|refine blk_drewN ?_ _|refine blk_drew ?_|refine blk_alloc ?_ _));exact BK173.out) hb);have n3_:=Aside0.mk (blk_below (g:=gb174) (o:= .cells #[.slice none 0 0,.slice none 0 0] 76 (0,0)) (by(with_reducible repeat(first|refine blk_drewN ?_ _|refine blk_drew ?_|refine blk_alloc ?_ _));exact BK174.out) hb);have n4_:=Aside0.mk (blk_below (g:=gb175) (o:= .cells #[u176000,u176001] 76 (0,0)) (by(with_reducible repeat(first|refine blk_drewN ?_ _|refine blk_drew ?_|refine blk_alloc ?_ _));exact BK175.out) hb);have n5_:=Aside0.mk (below_step (by repeat(first|(with_reducible first|exact HB.out|apply below_alloc|apply pw_below_drewN|apply below_drew1|refine below_set ?_ GE173.out|refine below_set ?_ GE174.out|refine below_set ?_ GE175.out)|exact HB.out)) hb);have n6_:=Aside0.mk (hbox);have n7_:=Aside0.mk ((by rw [hg];exact(below_size (by repeat(first|(with_reducible first|exact HB.out|apply below_alloc|apply pw_below_drewN|apply below_drew1|refine below_set ?_ GE173.out|refine below_set ?_ GE174.out|refine below_set ?_ GE175.out)|exact HB.out))):w.heap.size≤gb184));have n8_:=Aside0.mk ((by rw [hg];exact(below_size (by repeat(first|(with_reducible first|exact HB.out|apply below_alloc|apply pw_below_drewN|apply below_drew1|refine below_set ?_ GE173.out|refine below_set ?_ GE174.out|refine below_set ?_ GE175.out)|exact HB.out))):w.heap.size≤gb184));have n9_:=Aside0.mk ((by rw [hg];exact Nat.ne_of_lt (blk_lt (g:=gb173) (o:= .cells #[.int .i64 a0_0,.slice A0_1 l0_1.length c0_1,.slice A0_2 l0_2.length c0_2,.slice (some ad183) l0_3.length c0_3,.slice A0_4 l0_4.length c0_4,.slice A0_5 l0_5.length c0_5] 28 (0,0)) (by(with_reducible repeat(first|refine blk_drewN ?_ _|refine blk_drew ?_|refine blk_alloc ?_ _));exact BK173.out)):gb173≠gb184));have n10_:=Aside0.mk ((by rw [hg];exact Nat.ne_of_gt (blk_lt (g:=gb173) (o:= .cells #[.int .i64 a0_0,.slice A0_1 l0_1.length c0_1,.slice A0_2 l0_2.length c0_2,.slice (some ad183) l0_3.length c0_3,.slice A0_4 l0_4.length c0_4,.slice A0_5 l0_5.length c0_5] 28 (0,0)) (by(with_reducible repeat(first|refine blk_drewN ?_ _|refine blk_drew ?_|refine blk_alloc ?_ _));exact BK173.out)):gb184≠gb173));have n11_:=Aside0.mk ((by rw [hg];exact Nat.ne_of_lt (blk_lt (g:=gb174) (o:= .cells #[.slice none 0 0,.slice none 0 0] 76 (0,0)) (by(with_reducible repeat(first|refine blk_drewN ?_ _|refine blk_drew ?_|refine blk_alloc ?_ _));exact BK174.out)):gb174≠gb184));have n12_:=Aside0.mk ((by rw [hg];exact Nat.ne_of_gt (blk_lt (g:=gb174) (o:= .cells #[.slice none 0 0,.slice none 0 0] 76 (0,0)) (by(with_reducible repeat(first|refine blk_drewN ?_ _|refine blk_drew ?_|refine blk_alloc ?_ _));exact BK174.out)):gb184≠gb174));have n13_:=Aside0.mk ((by rw [hg];exact Nat.ne_of_lt (blk_lt (g:=gb175) (o:= .cells #[u176000,u176001] 76 (0,0)) (by(with_reducible repeat(first|refine blk_drewN ?_ _|refine blk_drew ?_|refine blk_alloc ?_ _));exact BK175.out)):gb175≠gb184));have n14_:=Aside0.mk ((by rw [hg];exact Nat.ne_of_gt (blk_lt (g:=gb175) (o:= .cells #[u176000,u176001] 76 (0,0)) (by(with_reducible repeat(first|refine blk_drewN ?_ _|refine blk_drew ?_|refine blk_alloc ?_ _));exact BK175.out)):gb184≠gb175));clear HO_176000;clear HO_176001;clear BK173;clear BK174;clear BK175;clear HB;have HO_176000:=n0_;have HO_176001:=n1_;have BK173:=n2_;have BK174:=n3_;have BK175:=n4_;have HB:=n5_;have BK184:=n6_;have GW184:=n7_;have GE184:=n8_;have NB173_184:=n9_;have NB184_173:=n10_;have NB174_184:=n11_;have NB184_174:=n12_;have NB175_184:=n13_;have NB184_175:=n14_;clear n0_ n1_ n2_ n3_ n4_ n5_ n6_ n7_ n8_ n9_ n10_ n11_ n12_ n13_ n14_;clear hb hbox hg;have hnb42:=NB184_173.out;have hnc42:=NB173_184.out;have hnb43:=NB184_174.out;have hnc43:=NB174_184.out;have hnb44:=NB184_175.out;have hnc44:=NB175_184.out;have hcz45_0:w41.cell? ⟨gb184,0,none⟩=some (.int .i64 0):=(blk_cell BK184.out 0).trans rfl;have hcz45_1:w41.cell? ⟨gb184,1,none⟩=some (.int .i64 0):=(blk_cell BK184.out 1).trans rfl;have hfz45_0:=blk_frozen BK184.out 0;have hfz45_1:=blk_frozen BK184.out 1))
           have n0_:Aside0 (Kd.R (Kd.int .i64) 3 ((w41.setCell ⟨gb184,0,none⟩ (.int .i64 ((rd_T54 l0_3 x8_2).f1.f0))).setCell ⟨gb184,1,none⟩ (.int .i64 ((rd_T54 l0_3 x8_2).f1.f1))) w.heap.size (fun k_=>some k_≠(u176001:Value).ownBlock) u176000 x176000_1):=⟨by(with_reducible repeat(first|apply Kd.R_alloc|apply Kd.R_drewN|apply Kd.R_drew));exact Kd.R_mono (Kd.R_far (p:=⟨gb184,1,none⟩) (Kd.R_far (p:=⟨gb184,0,none⟩) (Kd.R_types HO_176000.out BK184.out (by decide)) (fun _ hk=>hk.2) (.int .i64 ((rd_T54 l0_3 x8_2).f1.f0))) (fun _ hk=>hk.2) (.int .i64 ((rd_T54 l0_3 x8_2).f1.f1))) (fun _ hk=>hk.1)⟩
           have n1_:Aside0 (Kd.R (Kd.int .i64) 3 ((w41.setCell ⟨gb184,0,none⟩ (.int .i64 ((rd_T54 l0_3 x8_2).f1.f0))).setCell ⟨gb184,1,none⟩ (.int .i64 ((rd_T54 l0_3 x8_2).f1.f1))) w.heap.size (fun k_=>some k_≠(u176000:Value).ownBlock) u176001 x176001_2):=⟨by(with_reducible repeat(first|apply Kd.R_alloc|apply Kd.R_drewN|apply Kd.R_drew));exact Kd.R_mono (Kd.R_far (p:=⟨gb184,1,none⟩) (Kd.R_far (p:=⟨gb184,0,none⟩) (Kd.R_types HO_176001.out BK184.out (by decide)) (fun _ hk=>hk.2) (.int .i64 ((rd_T54 l0_3 x8_2).f1.f0))) (fun _ hk=>hk.2) (.int .i64 ((rd_T54 l0_3 x8_2).f1.f1))) (fun _ hk=>hk.1)⟩
           have n2_:Aside0 (((w41.setCell ⟨gb184,0,none⟩ (.int .i64 ((rd_T54 l0_3 x8_2).f1.f0))).setCell ⟨gb184,1,none⟩ (.int .i64 ((rd_T54 l0_3 x8_2).f1.f1))).heap[gb173]? =some (.cells #[.int .i64 a0_0,.slice A0_1 l0_1.length c0_1,.slice A0_2 l0_2.length c0_2,.slice (some ad183) l0_3.length c0_3,.slice A0_4 l0_4.length c0_4,.slice A0_5 l0_5.length c0_5] 28 (0,0))):=⟨by(with_reducible repeat(first|refine blk_drewN ?_ _|refine blk_drew ?_|refine blk_alloc ?_ _));refine blk_far ?_ NB173_184.out _;(with_reducible repeat(first|refine blk_drewN ?_ _|refine blk_drew ?_|refine blk_alloc ?_ _));refine blk_far ?_ NB173_184.out _;(with_reducible repeat(first|refine blk_drewN ?_ _|refine blk_drew ?_|refine blk_alloc ?_ _));exact BK173.out⟩
           have n3_:Aside0 (((w41.setCell ⟨gb184,0,none⟩ (.int .i64 ((rd_T54 l0_3 x8_2).f1.f0))).setCell ⟨gb184,1,none⟩ (.int .i64 ((rd_T54 l0_3 x8_2).f1.f1))).heap[gb174]? =some (.cells #[.slice none 0 0,.slice none 0 0] 76 (0,0))):=⟨by(with_reducible repeat(first|refine blk_drewN ?_ _|refine blk_drew ?_|refine blk_alloc ?_ _));refine blk_far ?_ NB174_184.out _;(with_reducible repeat(first|refine blk_drewN ?_ _|refine blk_drew ?_|refine blk_alloc ?_ _));refine blk_far ?_ NB174_184.out _;(with_reducible repeat(first|refine blk_drewN ?_ _|refine blk_drew ?_|refine blk_alloc ?_ _));exact BK174.out⟩
           have n4_:Aside0 (((w41.setCell ⟨gb184,0,none⟩ (.int .i64 ((rd_T54 l0_3 x8_2).f1.f0))).setCell ⟨gb184,1,none⟩ (.int .i64 ((rd_T54 l0_3 x8_2).f1.f1))).heap[gb175]? =some (.cells #[u176000,u176001] 76 (0,0))):=⟨by(with_reducible repeat(first|refine blk_drewN ?_ _|refine blk_drew ?_|refine blk_alloc ?_ _));refine blk_far ?_ NB175_184.out _;(with_reducible repeat(first|refine blk_drewN ?_ _|refine blk_drew ?_|refine blk_alloc ?_ _));refine blk_far ?_ NB175_184.out _;(with_reducible repeat(first|refine blk_drewN ?_ _|refine blk_drew ?_|refine blk_alloc ?_ _));exact BK175.out⟩
           have n5_:Aside0 (((w41.setCell ⟨gb184,0,none⟩ (.int .i64 ((rd_T54 l0_3 x8_2).f1.f0))).setCell ⟨gb184,1,none⟩ (.int .i64 ((rd_T54 l0_3 x8_2).f1.f1))).heap[gb184]? =some (.cells #[.int .i64 ((rd_T54 l0_3 x8_2).f1.f0),.int .i64 ((rd_T54 l0_3 x8_2).f1.f1)] 52 (0,0))):=⟨by(with_reducible repeat(first|refine blk_drewN ?_ _|refine blk_drew ?_|refine blk_alloc ?_ _));refine blk_put (cs:=#[.int .i64 ((rd_T54 l0_3 x8_2).f1.f0),.int .i64 0]) ?_ 1 _ rfl;(with_reducible repeat(first|refine blk_drewN ?_ _|refine blk_drew ?_|refine blk_alloc ?_ _));refine blk_put (cs:=#[.int .i64 0,.int .i64 0]) ?_ 0 _ rfl;(with_reducible repeat(first|refine blk_drewN ?_ _|refine blk_drew ?_|refine blk_alloc ?_ _));exact BK184.out⟩
           have n6_:Aside0 (Below w.heap.size w ((w41.setCell ⟨gb184,0,none⟩ (.int .i64 ((rd_T54 l0_3 x8_2).f1.f0))).setCell ⟨gb184,1,none⟩ (.int .i64 ((rd_T54 l0_3 x8_2).f1.f1)))):=⟨by repeat(first|(with_reducible first|exact HB.out|apply below_alloc|apply pw_below_drewN|apply below_drew1|refine below_set ?_ GE173.out|refine below_set ?_ GE174.out|refine below_set ?_ GE175.out|refine below_set ?_ GE184.out)|exact HB.out)⟩
           (try clear HO_176000)
           (try clear HO_176001)
           (try clear BK173)
           (try clear BK174)
           (try clear BK175)
           (try clear BK184)
           (try clear HB)
           generalize ((w41.setCell ⟨gb184,0,none⟩ (.int .i64 ((rd_T54 l0_3 x8_2).f1.f0))).setCell ⟨gb184,1,none⟩ (.int .i64 ((rd_T54 l0_3 x8_2).f1.f1)))=w46 at n0_ n1_ n2_ n3_ n4_ n5_ n6_ ⊢
           have HO_176000:=n0_
           have HO_176001:=n1_
           have BK173:=n2_
           have BK174:=n3_
           have BK175:=n4_
           have BK184:=n5_
           have HB:=n6_
           clear n0_ n1_ n2_ n3_ n4_ n5_ n6_
           have n0_:=Aside0.mk (Kd.R_drew HO_176000.out)
           have n1_:=Aside0.mk (Kd.R_drew HO_176001.out)
           have n2_:=Aside0.mk (blk_drew BK173.out)
           have n3_:=Aside0.mk (blk_drew BK174.out)
           have n4_:=Aside0.mk (blk_drew BK175.out)
           have n5_:=Aside0.mk (blk_drew BK184.out)
           have n6_:=Aside0.mk (below_drew1 HB.out)
           clear HO_176000
           clear HO_176001
           clear BK173
           clear BK174
           clear BK175
           clear BK184
           clear HB
           have HO_176000:=n0_
           have HO_176001:=n1_
           have BK173:=n2_
           have BK174:=n3_
           have BK175:=n4_
           have BK184:=n5_
           have HB:=n6_
           clear n0_ n1_ n2_ n3_ n4_ n5_ n6_
           refine start_ (n:=18) (S:=fun w'=>w'.cell? ⟨gb175,0,none⟩=some (u176000)∧w'.cell? ⟨gb175,1,none⟩=some (u176001)∧w'.cell? ⟨gb184,0,none⟩=some (.int .i64 ((rd_T54 l0_3 x8_2).f1.f0))∧w'.cell? ⟨gb184,1,none⟩=some (.int .i64 ((rd_T54 l0_3 x8_2).f1.f1))) (ds:= [16]) #[false,false,false,false,false,false,false,false,false,false,false,false,false,false,false,false,false,false] (by kernel_rfl) rfl rfl ⟨(blk_cell BK175.out 0).trans rfl,(blk_cell BK175.out 1).trans rfl,(blk_cell BK184.out 0).trans rfl,(blk_cell BK184.out 1).trans rfl⟩ (fun hHeld=> ?_);refine with_tabW anilref06_Nth.tab11 anilref06_Nth.bits11 (fun HT_ HW_=> ?_)
           generalize w46.drew=w47 at HO_176000 HO_176001 BK173 BK174 BK175 BK184 HB hHeld ⊢
           refine pure_ (i:=0) (N:=some 51) (v:= ?_) (a':= ?_) #[true,false,false,false,false,false,false,false,false,false,false,false,false,false,false,false,false,false] rfl rfl (any_of HT_.out (by kernel_rfl)) (fun _ _ _ h=>h) (Or.inl ⟨by rfl,?_⟩) ?_ ?_
           rotate_left
           ·intro w'
            go_simp
            with_reducible rfl
           rotate_left
           ·simp only [Act.put,List.setIfInBounds_toArray,List.set_cons_zero,List.set_cons_succ,i64_w,i32_w]
            rfl
           refine pure_ (i:=2) (N:=some 53) (v:= ?_) (a':= ?_) #[true,false,true,false,false,false,false,false,false,false,false,false,false,false,false,false,false,false] rfl rfl (any_of HT_.out (by kernel_rfl)) (fun _ _ _ h=>h) (Or.inl ⟨by rfl,?_⟩) ?_ ?_
           rotate_left
           ·intro w'
            go_simp
            with_reducible rfl
           rotate_left
           ·simp only [Act.put,List.setIfInBounds_toArray,List.set_cons_zero,List.set_cons_succ,i64_w,i32_w]
            rfl
           refine pure_ (i:=4) (N:=some 55) (v:= ?_) (a':= ?_) #[true,false,true,false,true,false,false,false,false,false,false,false,false,false,false,false,false,false] rfl rfl (any_of HT_.out (by kernel_rfl)) (fun _ _ _ h=>h) (Or.inl ⟨by rfl,?_⟩) ?_ ?_
           rotate_left
           ·intro w'
            go_simp
            with_reducible rfl
           rotate_left
           ·simp only [Act.put,List.setIfInBounds_toArray,List.set_cons_zero,List.set_cons_succ,i64_w,i32_w]
            rfl
           refine pure_ (i:=11) (N:=some 62) (v:= ?_) (a':= ?_) #[true,false,true,false,true,false,false,false,false,false,false,true,false,false,false,false,false,false] rfl rfl (any_of HT_.out (by kernel_rfl)) (fun _ _ _ h=>h) (Or.inl ⟨by rfl,?_⟩) ?_ ?_
           rotate_left
           ·intro w'
            go_simp
            with_reducible rfl
           rotate_left
           ·simp only [Act.put,List.setIfInBounds_toArray,List.set_cons_zero,List.set_cons_succ,i64_w,i32_w]
            rfl
           refine take_ (i:=1) (N:=some 52) (v:= ?_) (a':= ?_) #[true,true,true,false,true,false,false,false,false,false,false,true,false,false,false,false,false,false] rfl rfl (take_ofW HT_.out HW_.out (by kernel_rfl)) (fun _ _ _ h=>h) (Or.inl ⟨by rfl,?_⟩) hHeld ?_ ?_
           rotate_left
           ·rintro w' ⟨s0,s1,s2,s3⟩
            go_simp
            with_reducible rfl
           rotate_left
           ·simp only [Act.put,List.setIfInBounds_toArray,List.set_cons_zero,List.set_cons_succ,i64_w,i32_w]
            rfl
           refine take_ (i:=3) (N:=some 54) (v:= ?_) (a':= ?_) #[true,true,true,true,true,false,false,false,false,false,false,true,false,false,false,false,false,false] rfl rfl (take_ofW HT_.out HW_.out (by kernel_rfl)) (fun _ _ _ h=>h) (Or.inl ⟨by rfl,?_⟩) hHeld ?_ ?_
           rotate_left
           ·rintro w' ⟨s0,s1,s2,s3⟩
            go_simp
            with_reducible rfl
           rotate_left
           ·simp only [Act.put,List.setIfInBounds_toArray,List.set_cons_zero,List.set_cons_succ,i64_w,i32_w]
            rfl
           refine take_ (i:=5) (N:=some 56) (v:= ?_) (a':= ?_) #[true,true,true,true,true,true,false,false,false,false,false,true,false,false,false,false,false,false] rfl rfl (take_ofW HT_.out HW_.out (by kernel_rfl)) (fun _ _ _ h=>h) (Or.inl ⟨by rfl,?_⟩) hHeld ?_ ?_
           rotate_left
           ·rintro w' ⟨s0,s1,s2,s3⟩
            go_simp
            with_reducible rfl
           rotate_left
           ·simp only [Act.put,List.setIfInBounds_toArray,List.set_cons_zero,List.set_cons_succ,i64_w,i32_w]
            rfl
           refine take_ (i:=12) (N:=some 63) (v:= ?_) (a':= ?_) #[true,true,true,true,true,true,false,false,false,false,false,true,true,false,false,false,false,false] rfl rfl (take_ofW HT_.out HW_.out (by kernel_rfl)) (fun _ _ _ h=>h) (Or.inl ⟨by rfl,?_⟩) hHeld ?_ ?_
           rotate_left
           ·rintro w' ⟨s0,s1,s2,s3⟩
            go_simp
            with_reducible rfl
           rotate_left
           ·simp only [Act.put,List.setIfInBounds_toArray,List.set_cons_zero,List.set_cons_succ,i64_w,i32_w]
            rfl
           refine one_ (i:=6) (N:=some 57) #[true,true,true,true,true,true,true,false,false,false,false,true,true,false,false,false,false,false] rfl rfl (one_of HT_.out (by kernel_rfl)) (by decide) (fun K hK=> ?_)
           refine goes_ Try.func95 (by kernel_rfl) rfl #[.agg #[.int .i64 ((rd_T54 l0_3 x8_2).f1.f0),.int .i64 ((rd_T54 l0_3 x8_2).f1.f1)]] (by rfl) rfl rfl (by(try simp only [List.map_toArray,List.map_cons,List.map_nil]);first|done|rfl|(simp only [List.length_drop,List.length_take];rfl)) ?_
           with_reducible refine(anilref06_Size.calls ((rd_T54 l0_3 x8_2).f1.f0) ((rd_T54 l0_3 x8_2).f1.f1) t185 _ A33.out).mono ?_
           rintro e w48 ⟨rfl,hb⟩
           refine⟨_,rfl,?_⟩
           have n0_:=Aside0.mk (Kd.R_below (by(with_reducible repeat(first|apply Kd.R_alloc|apply Kd.R_drewN|apply Kd.R_drew));exact HO_176000.out) hb)
           have n1_:=Aside0.mk (Kd.R_below (by(with_reducible repeat(first|apply Kd.R_alloc|apply Kd.R_drewN|apply Kd.R_drew));exact HO_176001.out) hb)
           have n2_:=Aside0.mk (blk_below (g:=gb173) (o:= .cells #[.int .i64 a0_0,.slice A0_1 l0_1.length c0_1,.slice A0_2 l0_2.length c0_2,.slice (some ad183) l0_3.length c0_3,.slice A0_4 l0_4.length c0_4,.slice A0_5 l0_5.length c0_5] 28 (0,0)) (by(with_reducible repeat(first|refine blk_drewN ?_ _|refine blk_drew ?_|refine blk_alloc ?_ _));exact BK173.out) hb)
           have n3_:=Aside0.mk (blk_below (g:=gb174) (o:= .cells #[.slice none 0 0,.slice none 0 0] 76 (0,0)) (by(with_reducible repeat(first|refine blk_drewN ?_ _|refine blk_drew ?_|refine blk_alloc ?_ _));exact BK174.out) hb)
           have n4_:=Aside0.mk (blk_below (g:=gb175) (o:= .cells #[u176000,u176001] 76 (0,0)) (by(with_reducible repeat(first|refine blk_drewN ?_ _|refine blk_drew ?_|refine blk_alloc ?_ _));exact BK175.out) hb)
           have n5_:=Aside0.mk (blk_below (g:=gb184) (o:= .cells #[.int .i64 ((rd_T54 l0_3 x8_2).f1.f0),.int .i64 ((rd_T54 l0_3 x8_2).f1.f1)] 52 (0,0)) (by(with_reducible repeat(first|refine blk_drewN ?_ _|refine blk_drew ?_|refine blk_alloc ?_ _));exact BK184.out) hb)
           have n6_:=Aside0.mk (below_step (by repeat(first|(with_reducible first|exact HB.out|apply below_alloc|apply pw_below_drewN|apply below_drew1|refine below_set ?_ GE173.out|refine below_set ?_ GE174.out|refine below_set ?_ GE175.out|refine below_set ?_ GE184.out)|exact HB.out)) hb)
           clear HO_176000
           clear HO_176001
           clear BK173
           clear BK174
           clear BK175
           clear BK184
           clear HB
           have HO_176000:=n0_
           have HO_176001:=n1_
           have BK173:=n2_
           have BK174:=n3_
           have BK175:=n4_
           have BK184:=n5_
           have HB:=n6_
           clear n0_ n1_ n2_ n3_ n4_ n5_ n6_
           (try clear hb)
           (try clear hb2)
           (try clear hk)
           (try clear hi)
           refine hK.out _ _ ⟨(blk_cell BK175.out 0).trans rfl,(blk_cell BK175.out 1).trans rfl,(blk_cell BK184.out 0).trans rfl,(blk_cell BK184.out 1).trans rfl⟩ (fun hHeld=> ?_)
           clear hK K
           refine norm_ (a':= ?_) ?_ ?_
           rotate_left
           ·show Act.put _ (some 57) _=_
            simp only [Act.put,List.setIfInBounds_toArray,List.set_cons_zero,List.set_cons_succ,i64_w,i32_w]
            rfl
           refine pure_ (i:=7) (N:=some 58) (v:= ?_) (a':= ?_) #[true,true,true,true,true,true,true,true,false,false,false,true,true,false,false,false,false,false] rfl rfl (any_of HT_.out (by kernel_rfl)) (fun _ _ _ h=>h) (Or.inl ⟨by rfl,?_⟩) ?_ ?_
           rotate_left
           ·intro w'
            go_simp
            with_reducible rfl
           rotate_left
           ·simp only [Act.put,List.setIfInBounds_toArray,List.set_cons_zero,List.set_cons_succ,i64_w,i32_w]
            rfl
           refine pure_ (i:=8) (N:=some 59) (v:= ?_) (a':= ?_) #[true,true,true,true,true,true,true,true,true,false,false,true,true,false,false,false,false,false] rfl rfl (any_of HT_.out (by kernel_rfl)) (fun _ _ _ h=>h) (Or.inl ⟨by rfl,?_⟩) ?_ ?_
           rotate_left
           ·intro w'
            go_simp
            with_reducible rfl
           rotate_left
           ·simp only [Act.put,List.setIfInBounds_toArray,List.set_cons_zero,List.set_cons_succ,i64_w,i32_w]
            rfl
           refine one_ (i:=9) (N:=some 60) #[true,true,true,true,true,true,true,true,true,true,false,true,true,false,false,false,false,false] rfl rfl (one_of HT_.out (by kernel_rfl)) (by decide) (fun K hK=> ?_)
           refine value_ (w1:= ?_) (v:= ?_) (by rfl) rfl ?_ ?_
           rotate_left 2
           ·go_simp
            constructor
            ·rfl
            ·rfl
           refine hK.out _ _ ⟨(blk_cell (blk_alloc BK175.out _) 0).trans rfl,(blk_cell (blk_alloc BK175.out _) 1).trans rfl,(blk_cell (blk_alloc BK184.out _) 0).trans rfl,(blk_cell (blk_alloc BK184.out _) 1).trans rfl⟩ (fun hHeld=> ?_)
           clear hK K
           refine norm_ (a':= ?_) ?_ ?_
           rotate_left
           ·show Act.put _ (some 60) _=_
            simp only [Act.put,List.setIfInBounds_toArray,List.set_cons_zero,List.set_cons_succ,i64_w,i32_w]
            rfl
           refine one_ (i:=10) (N:=some 61) #[true,true,true,true,true,true,true,true,true,true,true,true,true,false,false,false,false,false] rfl rfl (one_of HT_.out (by kernel_rfl)) (by decide) (fun K hK=> ?_)
           refine Kd.R_append_step (Kd.int .i64) (w0:=w) w.heap.size (by rfl) (.tmp 52) (.tmp 60) 25 3 (.int .i64 0) 8 rfl Try.underlying25 info3 rfl (by decide) (by omega) u176001 x176001_2 (wrap64 (((rd_T54 l0_3 x8_2).f1.f0)+(Int.tmod x1_2 t185))) [.int .i64 (wrap64 (((rd_T54 l0_3 x8_2).f1.f0)+(Int.tmod x1_2 t185)))] (fun k_=>some k_≠(u176000:Value).ownBlock) (fun _=>False) rfl rfl ?aP (fun _ hk=>hk.elim) ?aF ?aO ?aB ?aS ?aL ?_
           (case aP=>exact rfl)
           (case aB=>exact(by repeat(first|(with_reducible first|exact HB.out|apply below_alloc|apply pw_below_drewN|apply below_drew1|refine below_set ?_ GE173.out|refine below_set ?_ GE174.out|refine below_set ?_ GE175.out|refine below_set ?_ GE184.out)|exact HB.out)))
           (case aF=>exact(fun k_ hk=>Kd.fresh' (Kd.R_lt (by(with_reducible repeat(first|apply Kd.R_alloc|apply Kd.R_drewN|apply Kd.R_drew));exact HO_176000.out)) k_ hk))
           (case aO=>exact(by(with_reducible repeat(first|apply Kd.R_alloc|apply Kd.R_drewN|apply Kd.R_drew));exact HO_176001.out))
           (case aS=>exact(below_size (by repeat(first|(with_reducible first|exact HB.out|apply below_alloc|apply pw_below_drewN|apply below_drew1|refine below_set ?_ GE173.out|refine below_set ?_ GE174.out|refine below_set ?_ GE175.out|refine below_set ?_ GE184.out)|exact HB.out))))
           (case aL=>have:=LMc35.out;omega)
           intro v187 w49 ho hb hg hat
           rw [←Ny186.out]at ho
           have n0_:=Aside0.mk (Kd.R_after (ok:=(fun _=>True)) (by(with_reducible repeat(first|apply Kd.R_alloc|apply Kd.R_drewN|apply Kd.R_drew));exact Kd.R_mono HO_176000.out (fun _ hk=>⟨trivial,hk⟩)) hg hat)
           have n1_:=Aside0.mk (blk_grown (g:=gb173) (o:= .cells #[.int .i64 a0_0,.slice A0_1 l0_1.length c0_1,.slice A0_2 l0_2.length c0_2,.slice (some ad183) l0_3.length c0_3,.slice A0_4 l0_4.length c0_4,.slice A0_5 l0_5.length c0_5] 28 (0,0)) (by(with_reducible repeat(first|refine blk_drewN ?_ _|refine blk_drew ?_|refine blk_alloc ?_ _));exact BK173.out) hg (Kd.R_ne HO_176001.out BK173.out (by decide)))
           have n2_:=Aside0.mk (blk_grown (g:=gb174) (o:= .cells #[.slice none 0 0,.slice none 0 0] 76 (0,0)) (by(with_reducible repeat(first|refine blk_drewN ?_ _|refine blk_drew ?_|refine blk_alloc ?_ _));exact BK174.out) hg (Kd.R_ne HO_176001.out BK174.out (by decide)))
           have n3_:=Aside0.mk (blk_grown (g:=gb175) (o:= .cells #[u176000,u176001] 76 (0,0)) (by(with_reducible repeat(first|refine blk_drewN ?_ _|refine blk_drew ?_|refine blk_alloc ?_ _));exact BK175.out) hg (Kd.R_ne HO_176001.out BK175.out (by decide)))
           have n4_:=Aside0.mk (blk_grown (g:=gb184) (o:= .cells #[.int .i64 ((rd_T54 l0_3 x8_2).f1.f0),.int .i64 ((rd_T54 l0_3 x8_2).f1.f1)] 52 (0,0)) (by(with_reducible repeat(first|refine blk_drewN ?_ _|refine blk_drew ?_|refine blk_alloc ?_ _));exact BK184.out) hg (Kd.R_ne HO_176001.out BK184.out (by decide)))
           have n5_:=Aside0.mk (hb)
           have n6_:=Aside0.mk (ho)
           clear HO_176000
           clear BK173
           clear BK174
           clear BK175
           clear BK184
           clear HB
           clear HO_176001
           have HO_176000:=n0_
           have BK173:=n1_
           have BK174:=n2_
           have BK175:=n3_
           have BK184:=n4_
           have HB:=n5_
           have HO188:=n6_
           clear n0_ n1_ n2_ n3_ n4_ n5_ n6_
           clear ho hb hg hat
           refine hK.out _ _ ⟨(blk_cell BK175.out 0).trans rfl,(blk_cell BK175.out 1).trans rfl,(blk_cell BK184.out 0).trans rfl,(blk_cell BK184.out 1).trans rfl⟩ (fun hHeld=> ?_)
           clear hK K
           refine norm_ (a':= ?_) ?_ ?_
           rotate_left
           ·show Act.put _ (some 61) _=_
            simp only [Act.put,List.setIfInBounds_toArray,List.set_cons_zero,List.set_cons_succ,i64_w,i32_w]
            rfl
           refine pure_ (i:=15) (N:=some 66) (v:= ?_) (a':= ?_) #[true,true,true,true,true,true,true,true,true,true,true,true,true,false,false,true,false,false] rfl rfl (any_of HT_.out (by kernel_rfl)) (fun _ _ _ h=>h) (Or.inl ⟨by rfl,?_⟩) ?_ ?_
           rotate_left
           ·intro w'
            go_simp
            with_reducible rfl
           rotate_left
           ·simp only [Act.put,List.setIfInBounds_toArray,List.set_cons_zero,List.set_cons_succ,i64_w,i32_w]
            rfl
           refine one_ (i:=13) (N:=some 64) #[true,true,true,true,true,true,true,true,true,true,true,true,true,true,false,true,false,false] rfl rfl (one_of HT_.out (by kernel_rfl)) (by decide) (fun K hK=> ?_)
           refine goes_ Try.func95 (by kernel_rfl) rfl #[.agg #[.int .i64 ((rd_T54 l0_3 x8_2).f1.f0),.int .i64 ((rd_T54 l0_3 x8_2).f1.f1)]] (by rfl) rfl rfl (by(try simp only [List.map_toArray,List.map_cons,List.map_nil]);first|done|rfl|(simp only [List.length_drop,List.length_take];rfl)) ?_
           with_reducible refine(anilref06_Size.calls ((rd_T54 l0_3 x8_2).f1.f0) ((rd_T54 l0_3 x8_2).f1.f1) t189 _ A36.out).mono ?_
           rintro e w50 ⟨rfl,hb⟩
           refine⟨_,rfl,?_⟩
           have n0_:=Aside0.mk (Kd.R_below (by(with_reducible repeat(first|apply Kd.R_alloc|apply Kd.R_drewN|apply Kd.R_drew));exact HO_176000.out) hb)
           have n1_:=Aside0.mk (Kd.R_below (by(with_reducible repeat(first|apply Kd.R_alloc|apply Kd.R_drewN|apply Kd.R_drew));exact HO188.out) hb)
           have n2_:=Aside0.mk (blk_below (g:=gb173) (o:= .cells #[.int .i64 a0_0,.slice A0_1 l0_1.length c0_1,.slice A0_2 l0_2.length c0_2,.slice (some ad183) l0_3.length c0_3,.slice A0_4 l0_4.length c0_4,.slice A0_5 l0_5.length c0_5] 28 (0,0)) (by(with_reducible repeat(first|refine blk_drewN ?_ _|refine blk_drew ?_|refine blk_alloc ?_ _));exact BK173.out) hb)
           have n3_:=Aside0.mk (blk_below (g:=gb174) (o:= .cells #[.slice none 0 0,.slice none 0 0] 76 (0,0)) (by(with_reducible repeat(first|refine blk_drewN ?_ _|refine blk_drew ?_|refine blk_alloc ?_ _));exact BK174.out) hb)
           have n4_:=Aside0.mk (blk_below (g:=gb175) (o:= .cells #[u176000,u176001] 76 (0,0)) (by(with_reducible repeat(first|refine blk_drewN ?_ _|refine blk_drew ?_|refine blk_alloc ?_ _));exact BK175.out) hb)
           have n5_:=Aside0.mk (blk_below (g:=gb184) (o:= .cells #[.int .i64 ((rd_T54 l0_3 x8_2).f1.f0),.int .i64 ((rd_T54 l0_3 x8_2).f1.f1)] 52 (0,0)) (by(with_reducible repeat(first|refine blk_drewN ?_ _|refine blk_drew ?_|refine blk_alloc ?_ _));exact BK184.out) hb)
           have n6_:=Aside0.mk (below_step (by repeat(first|(with_reducible first|exact HB.out|apply below_alloc|apply pw_below_drewN|apply below_drew1|refine below_set ?_ GE173.out|refine below_set ?_ GE174.out|refine below_set ?_ GE175.out|refine below_set ?_ GE184.out)|exact HB.out)) hb)
           clear HO_176000
           clear HO188
           clear BK173
           clear BK174
           clear BK175
           clear BK184
           clear HB
           have HO_176000:=n0_
           have HO188:=n1_
           have BK173:=n2_
           have BK174:=n3_
           have BK175:=n4_
           have BK184:=n5_
           have HB:=n6_
           clear n0_ n1_ n2_ n3_ n4_ n5_ n6_
           (try clear hb)
           (try clear hb2)
           (try clear hk)
           (try clear hi)
           obtain⟨Ao51,co51,eo51⟩:=Kd.R_slice HO188.out
           (first|subst eo51|(injection eo51 with f1_ f2_ f3_;have f4_:=f1_.symm;have f5_:=f3_.symm;clear f1_ f2_ f3_;subst f4_;subst f5_))
           refine hK.out _ _ ⟨(blk_cell BK175.out 0).trans rfl,(blk_cell BK175.out 1).trans rfl,(blk_cell BK184.out 0).trans rfl,(blk_cell BK184.out 1).trans rfl⟩ (fun hHeld=> ?_)
           clear hK K
           refine norm_ (a':= ?_) ?_ ?_
           rotate_left
           ·show Act.put _ (some 64) _=_
            simp only [Act.put,List.setIfInBounds_toArray,List.set_cons_zero,List.set_cons_succ,i64_w,i32_w]
            rfl
           refine pure_ (i:=14) (N:=some 65) (v:= ?_) (a':= ?_) #[true,true,true,true,true,true,true,true,true,true,true,true,true,true,true,true,false,false] rfl rfl (any_of HT_.out (by kernel_rfl)) (fun _ _ _ h=>h) (Or.inl ⟨by rfl,?_⟩) ?_ ?_
           rotate_left
           ·intro w'
            go_simp
            with_reducible rfl
           rotate_left
           ·simp only [Act.put,List.setIfInBounds_toArray,List.set_cons_zero,List.set_cons_succ,i64_w,i32_w]
            rfl
           refine last_ (i:=16) (N:=none) #[true,true,true,true,true,true,true,true,true,true,true,true,true,true,true,true,true,false] rfl rfl (one_of HT_.out (by kernel_rfl)) (by decide) (fun K hK=> ?_)
           have hs52:w50.cell? ⟨gb175,1,none⟩=some (u176001):=(blk_cell BK175.out 1).trans rfl
           have hfs52:=blk_frozen BK175.out 1
           have hns52_0:=NB173_175.out
           have hns52_1:=NB174_175.out
           have hns52_3:=NB184_175.out
           have hms52_0:=NB175_173.out
           have hms52_1:=NB175_174.out
           have hms52_3:=NB175_184.out
           refine skip_ (w1:= ?_) (by rfl) rfl ?_ ?_
           rotate_left
           ·go_simp
            rfl
           refine hK.out _ _ ?_
           clear hK K
           refine pure_ (i:=17) (N:=some 1) (v:= ?_) (a':= ?_) #[true,true,true,true,true,true,true,true,true,true,true,true,true,true,true,true,true,true] rfl rfl (any_of HT_.out (by kernel_rfl)) (fun _ _ _ h=>h) (Or.inl ⟨by rfl,?_⟩) ?_ ?_
           rotate_left
           ·intro w'
            go_simp
            with_reducible rfl
           rotate_left
           ·simp only [Act.put,List.setIfInBounds_toArray,List.set_cons_zero,List.set_cons_succ,i64_w,i32_w]
            rfl
           refine done_ (done_of HT_.out (by kernel_rfl)) ?_
           try go_wp2
           go_roundg k2
           case measure=>have:=HK1.out;have:=HK2.out;omega
           case rel=>exact⟨(wrap64 (Int.tdiv x1_2 t189)),(wrap64 (x8_2+1)),(y186),(.slice Ao51 y186.length co51),(by first|rfl|(simp;done)|(simp [*];done)),(by first|rfl|(simp;done)|(simp [*];done)),H',⟨by have:=HK1.out;have:=HK2.out;omega⟩,⟨by(with_reducible repeat(first|apply Kd.R_alloc|apply Kd.R_drewN|apply Kd.R_drew));exact Kd.R_mono (Kd.R_far (p:=⟨gb175,1,none⟩) (Kd.R_types HO_176000.out BK175.out (by decide)) (fun _ hk=>hk.2) (.slice Ao51 y186.length co51)) (fun _ hk=>hk.1.2)⟩,⟨by(with_reducible repeat(first|apply Kd.R_alloc|apply Kd.R_drewN|apply Kd.R_drew));exact Kd.R_mono (Kd.R_far (p:=⟨gb175,1,none⟩) (Kd.R_types HO188.out BK175.out (by decide)) (fun _ hk=>hk.2) (.slice Ao51 y186.length co51)) (fun _ hk=>hk.1)⟩,⟨by(with_reducible repeat(first|refine blk_drewN ?_ _|refine blk_drew ?_|refine blk_alloc ?_ _));refine blk_far ?_ NB173_175.out _;(with_reducible repeat(first|refine blk_drewN ?_ _|refine blk_drew ?_|refine blk_alloc ?_ _));exact BK173.out⟩,⟨by(with_reducible repeat(first|refine blk_drewN ?_ _|refine blk_drew ?_|refine blk_alloc ?_ _));refine blk_far ?_ NB174_175.out _;(with_reducible repeat(first|refine blk_drewN ?_ _|refine blk_drew ?_|refine blk_alloc ?_ _));exact BK174.out⟩,⟨by(with_reducible repeat(first|refine blk_drewN ?_ _|refine blk_drew ?_|refine blk_alloc ?_ _));refine blk_put (cs:=#[u176000,u176001]) ?_ 1 _ rfl;(with_reducible repeat(first|refine blk_drewN ?_ _|refine blk_drew ?_|refine blk_alloc ?_ _));exact BK175.out⟩,⟨by repeat(first|(with_reducible first|exact HB.out|apply below_alloc|apply pw_below_drewN|apply below_drew1|refine below_set ?_ GE173.out|refine below_set ?_ GE174.out|refine below_set ?_ GE175.out|refine below_set ?_ GE184.out)|exact HB.out)⟩⟩
         ·rw [if_neg c35]at H
          exact absurd H (by simp)
       ·rw [if_neg c32]at H
        exact absurd H (by simp)
      ·rw [if_neg c31]at H
       have c31b0:decide (x8_2 <(l0_3.length:Int))=false:=decide_eq_false c31
       clear c31
       simp only [Option.some.injEq,Prod.mk.injEq]at H
       obtain⟨rfl,rfl⟩:=H
       have hnb53:=NB173_174.out
       have hnc53:=NB174_173.out
       have hnb54:=NB173_175.out
       have hnc54:=NB175_173.out
       have hcz55_0:wr.cell? ⟨gb173,0,none⟩=some (.int .i64 a0_0):=(blk_cell BK173.out 0).trans rfl
       have hcz55_1:wr.cell? ⟨gb173,1,none⟩=some (.slice A0_1 l0_1.length c0_1):=(blk_cell BK173.out 1).trans rfl
       have hcz55_2:wr.cell? ⟨gb173,2,none⟩=some (.slice A0_2 l0_2.length c0_2):=(blk_cell BK173.out 2).trans rfl
       have hcz55_3:wr.cell? ⟨gb173,3,none⟩=some (.slice A0_3 l0_3.length c0_3):=(blk_cell BK173.out 3).trans rfl
       have hcz55_4:wr.cell? ⟨gb173,4,none⟩=some (.slice A0_4 l0_4.length c0_4):=(blk_cell BK173.out 4).trans rfl
       have hcz55_5:wr.cell? ⟨gb173,5,none⟩=some (.slice A0_5 l0_5.length c0_5):=(blk_cell BK173.out 5).trans rfl
       have hfz55_0:=blk_frozen BK173.out 0
       have hfz55_1:=blk_frozen BK173.out 1
       have hfz55_2:=blk_frozen BK173.out 2
       have hfz55_3:=blk_frozen BK173.out 3
       have hfz55_4:=blk_frozen BK173.out 4
       have hfz55_5:=blk_frozen BK173.out 5
       have hnb56:=NB175_174.out
       have hnc56:=NB174_175.out
       have hcz57_0:wr.cell? ⟨gb175,0,none⟩=some (u176000):=(blk_cell BK175.out 0).trans rfl
       have hcz57_1:wr.cell? ⟨gb175,1,none⟩=some (u176001):=(blk_cell BK175.out 1).trans rfl
       have hfz57_0:=blk_frozen BK175.out 0
       have hfz57_1:=blk_frozen BK175.out 1
       obtain⟨Ao58,co58,eo58⟩:=Kd.R_slice HO_176000.out
       subst eo58
       have hcz59_0:wr.cell? ⟨gb174,0,none⟩=some (.slice none 0 0):=(blk_cell BK174.out 0).trans rfl
       have hcz59_1:wr.cell? ⟨gb174,1,none⟩=some (.slice none 0 0):=(blk_cell BK174.out 1).trans rfl
       have hfz59_0:=blk_frozen BK174.out 0
       have hfz59_1:=blk_frozen BK174.out 1
       obtain⟨Ao60,co60,eo60⟩:=Kd.R_slice HO_176001.out
       subst eo60
       go_wp2
       refine bodyPost_ret (results_cell_row rfl _ _ gb174 76 #[.slice Ao58 x176000_1.length co58,.slice Ao60 x176001_2.length co60] (0,0) _ rfl (by(with_reducible repeat(first|refine blk_drewN ?_ _|refine blk_drew ?_|refine blk_alloc ?_ _));refine blk_put (cs:=#[.slice Ao58 x176000_1.length co58,.slice none 0 0]) ?_ 1 _ rfl;(with_reducible repeat(first|refine blk_drewN ?_ _|refine blk_drew ?_|refine blk_alloc ?_ _));refine blk_put (cs:=#[.slice none 0 0,.slice none 0 0]) ?_ 0 _ rfl;(with_reducible repeat(first|refine blk_drewN ?_ _|refine blk_drew ?_|refine blk_alloc ?_ _));exact BK174.out) Try.underlying76 rfl (by kernel_rfl)) rfl ?_
       exact⟨_,_,by first|rfl|(simp [errW_none,errW_some]<;>rfl)|(simp [*,errW_none,errW_some]<;>rfl),by(with_reducible repeat(first|apply Kd.R_alloc|apply Kd.R_drewN|apply Kd.R_drew));exact Kd.R_mono (Kd.R_far (p:=⟨gb174,1,none⟩) (Kd.R_far (p:=⟨gb174,0,none⟩) (Kd.R_types HO_176000.out BK174.out (by decide)) (fun _ hk=>hk.2) (.slice Ao58 x176000_1.length co58)) (fun _ hk=>hk.2) (.slice Ao60 x176001_2.length co60)) (fun _ hk=>hk.1),by(with_reducible repeat(first|apply Kd.R_alloc|apply Kd.R_drewN|apply Kd.R_drew));exact Kd.R_mono (Kd.R_far (p:=⟨gb174,1,none⟩) (Kd.R_far (p:=⟨gb174,0,none⟩) (Kd.R_types HO_176001.out BK174.out (by decide)) (fun _ hk=>hk.2) (.slice Ao58 x176000_1.length co58)) (fun _ hk=>hk.2) (.slice Ao60 x176001_2.length co60)) (fun _ hk=>hk.1),by repeat(first|(with_reducible first|exact HB.out|apply below_alloc|apply pw_below_drewN|apply below_drew1|refine below_set ?_ GE173.out|refine below_set ?_ GE174.out|refine below_set ?_ GE175.out)|exact HB.out)⟩
end Go.Proofs.Ytjifalohjlihaaa.Q
end
section
namespace Go.Proofs.Ytjifalohjlihaaa.Q
open Go.RowKit Go.Proofs.YtjifalohjlihaaaW.PrintWords Go.Proofs.YtjifalohjlihaaaW.PrintLast Go.Proofs.YtjifalohjlihaaaW.PrintMore
attribute [local go_sem] max2_int min2_int max_two min_two max_three min_three max_four min_four
set_option linter.unusedVariables false
set_option linter.unusedSimpArgs false
def anillaw06_word.f (l0:List Int) (a1:Int):Option (Int):=if (l0.length:Int)=0 then(some 0)else(if 0≤(Int.tmod a1 (l0.length:Int))then(if (Int.tmod a1 (l0.length:Int)) <(l0.length:Int)then(some (wrap64 (rd l0 (Int.tmod a1 (l0.length:Int)))))else(none))else(none))
set_option maxHeartbeats 8000000 in
set_option maxRecDepth 100000 in
theorem anillaw06_word.calls (A0:Option Addr) (c0:Nat) (l0:List Int) (a1:Int) (r:Int) (w:World) (hr0:Kd.C (Kd.int .u16) w A0 l0.length l0) (hc0:l0.length≤c0) (h:anillaw06_word.f l0 a1=some r):
  Calls Try.prog 91 #[.slice A0 l0.length c0,.int .i64 a1] w fun e w'=>e= .returned (.int .i64 r)∧Drawn0 w w':=by
 have HR0:=Aside0.mk hr0
 have HC0:=Aside0.mk hc0
 clear hr0 hc0
 have H:(if (l0.length:Int)=0 then(some 0)else(if 0≤(Int.tmod a1 (l0.length:Int))then(if (Int.tmod a1 (l0.length:Int)) <(l0.length:Int)then(some (wrap64 (rd l0 (Int.tmod a1 (l0.length:Int)))))else(none))else(none)))=some r:=h
 clear h
 by_cases c3:(l0.length:Int)=0
 ·rw [if_pos c3]at H
  have c3b0:((l0.length:Int)==0)=true:=beq_iff_eq.mpr c3
  have c3b1:((l0.length:Int) !=0)=false:=bne_eq_false_iff_eq.mpr c3
  clear c3
  obtain rfl:=Option.some.inj H
  go_enter Try.func91,Try.ntmps91
  go_wp2
  go_ret
  exact⟨by first|rfl|(simp;done)|(simp [*];done),by repeat(first|exact Drawn0.refl _|apply Drawn0.step)⟩
 ·rw [if_neg c3]at H
  have c3b0:((l0.length:Int)==0)=false:=beq_eq_false_iff_ne.mpr c3
  have c3b1:((l0.length:Int) !=0)=true:=bne_iff_ne.mpr c3
  have c3b2:¬(l0= []):=fun h_=>c3 (by rw [h_];rfl)
  obtain⟨ji4,hji4⟩:∃j_:Int,(Int.tmod a1 (l0.length:Int))=j_:=⟨_,rfl⟩
  replace H:(if 0≤(ji4)then(if (ji4) <(l0.length:Int)then(some (wrap64 (rd l0 (ji4))))else(none))else(none))=some r:=by first|(rw [hji4]at H;exact H)|(simp only [hji4]at H ⊢;exact H)
  by_cases c5:0≤(ji4)
  ·rw [if_pos c5]at H
   have c5b0:decide (0≤(ji4))=true:=decide_eq_true c5
   clear c5
   by_cases c6:(ji4) <(l0.length:Int)
   ·rw [if_pos c6]at H
    have c6b0:decide ((ji4) <(l0.length:Int))=true:=decide_eq_true c6
    clear c6
    obtain rfl:=Option.some.inj H
    have p481:0≤((ji4):Int):=of_decide_eq_true (by first|(with_reducible assumption)|assumption)
    have q481:(ji4) <(l0.length:Int):=of_decide_eq_true (by first|(with_reducible assumption)|assumption)
    obtain⟨ad481,e481,hx481_0⟩:=Kd.at_int HR0.out (ji4) p481 q481
    cases e481
    replace p481:=eq_true p481
    replace q481:=eq_true q481
    go_enter Try.func91,Try.ntmps91
    go_wp2
    go_ret
    exact⟨by first|rfl|(simp;done)|(simp only [←hji4]<;>(first|rfl|simp))|(simp [*];done),by repeat(first|exact Drawn0.refl _|apply Drawn0.step)⟩
   ·rw [if_neg c6]at H
    exact absurd H (by simp)
  ·rw [if_neg c5]at H
   exact absurd H (by simp)
end Go.Proofs.Ytjifalohjlihaaa.Q
end
section
namespace Go.Proofs.Ytjifalohjlihaaa.Q
open Go.RowKit Go.Proofs.YtjifalohjlihaaaW.PrintWords Go.Proofs.YtjifalohjlihaaaW.PrintLast Go.Proofs.YtjifalohjlihaaaW.PrintMore
attribute [local go_sem] max2_int min2_int max_two min_two max_three min_three max_four min_four
set_option linter.unusedVariables false
set_option linter.unusedSimpArgs false
def anillaw06_many.l0:Nat→List Int→Int→Int→Int→Option (Int)
 |0,_,_,_,_=>none
 |k+1,x0,x1,x5,x6=>if x6 <(x0.length:Int)then(if 0≤x6 then(if (rd x0 x6)=x1 then(anillaw06_many.l0 k x0 x1 (wrap64 (x5+1)) (wrap64 (x6+1)))else(anillaw06_many.l0 k x0 x1 x5 (wrap64 (x6+1))))else(none))else(some x5)
def anillaw06_many.f (k:Nat) (l0:List Int) (a1:Int):Option (Int):=anillaw06_many.l0 k l0 a1 0 0
set_option maxHeartbeats 8000000 in
set_option maxRecDepth 100000 in
theorem anillaw06_many.calls (k:Nat) (A0:Option Addr) (c0:Nat) (l0:List Int) (a1:Int) (r:Int) (w:World) (hr0:Kd.C (Kd.int .i64) w A0 l0.length l0) (hc0:l0.length≤c0) (h:anillaw06_many.f k l0 a1=some r):
  Calls Try.prog 92 #[.slice A0 l0.length c0,.int .i64 a1] w fun e w'=>e= .returned (.int .i64 r)∧Drawn0 w w':=by
 have HR0:=Aside0.mk hr0
 have HC0:=Aside0.mk hc0
 clear hr0 hc0
 have H:(anillaw06_many.l0 k l0 a1 0 0)=some r:=h
 clear h
 have H':=Aside0.mk H
 clear H
 go_enter Try.func92,Try.ntmps92
 go_wp2
 go_loopg [5,6] k (fun kq v5 v6 w'=>∃(x5_1:Int) (x6_1:Int),v5= .int .i64 x5_1∧v6= .int .i64 x6_1∧Aside0 (anillaw06_many.l0 kq l0 a1 x5_1 x6_1=some r)∧Aside0 (kq≤k)∧Drawn0 w w')
 case atStart=>exact⟨(0),(0),(by first|rfl|(simp;done)|(simp [*];done)),(by first|rfl|(simp;done)|(simp [*];done)),H',⟨Nat.le_refl _⟩,by repeat(first|exact Drawn0.refl _|apply Drawn0.step)⟩
 case round=>
  clear H'
  try clear p2
  obtain⟨x5_1,x6_1,rfl,rfl,HA,HK1,⟨m1,rfl⟩⟩:=hrel
  cases gk with
  |zero=>exact absurd HA.out (by simp [anillaw06_many.l0])
  |succ k1=>
   have H:=HA.out
   clear HA
   simp only [anillaw06_many.l0]at H
   by_cases c3:x6_1 <(l0.length:Int)
   ·rw [if_pos c3]at H
    have c3b0:decide (x6_1 <(l0.length:Int))=true:=decide_eq_true c3
    clear c3
    by_cases c4:0≤x6_1
    ·rw [if_pos c4]at H
     have c4b0:decide (0≤x6_1)=true:=decide_eq_true c4
     clear c4
     by_cases c5:(rd l0 x6_1)=a1
     ·rw [if_pos c5]at H
      have c5b0:((rd l0 x6_1)==a1)=true:=beq_iff_eq.mpr c5
      have c5b1:((rd l0 x6_1) !=a1)=false:=bne_eq_false_iff_eq.mpr c5
      clear c5
      have H':=Aside0.mk H
      clear H
      have p482:0≤(x6_1:Int):=of_decide_eq_true (by first|(with_reducible assumption)|assumption)
      have q482:x6_1 <(l0.length:Int):=of_decide_eq_true (by first|(with_reducible assumption)|assumption)
      obtain⟨ad482,e482,hx482_0⟩:=Kd.at_int HR0.out x6_1 p482 q482
      cases e482
      replace p482:=eq_true p482
      replace q482:=eq_true q482
      go_wp2
      go_roundg k1
      case measure=>have:=HK1.out;omega
      case rel=>exact⟨(wrap64 (x5_1+1)),(wrap64 (x6_1+1)),(by first|rfl|(simp;done)|(simp [*];done)),(by first|rfl|(simp;done)|(simp [*];done)),H',⟨by have:=HK1.out;omega⟩,by repeat(first|exact Drawn0.refl _|apply Drawn0.step)⟩
     ·rw [if_neg c5]at H
      have c5b0:((rd l0 x6_1)==a1)=false:=beq_eq_false_iff_ne.mpr c5
      have c5b1:((rd l0 x6_1) !=a1)=true:=bne_iff_ne.mpr c5
      have H':=Aside0.mk H
      clear H
      have p482:0≤(x6_1:Int):=of_decide_eq_true (by first|(with_reducible assumption)|assumption)
      have q482:x6_1 <(l0.length:Int):=of_decide_eq_true (by first|(with_reducible assumption)|assumption)
      obtain⟨ad482,e482,hx482_0⟩:=Kd.at_int HR0.out x6_1 p482 q482
      cases e482
      replace p482:=eq_true p482
      replace q482:=eq_true q482
      go_wp2
      go_roundg k1
      case measure=>have:=HK1.out;omega
      case rel=>exact⟨(x5_1),(wrap64 (x6_1+1)),(by first|rfl|(simp;done)|(simp [*];done)),(by first|rfl|(simp;done)|(simp [*];done)),H',⟨by have:=HK1.out;omega⟩,by repeat(first|exact Drawn0.refl _|apply Drawn0.step)⟩
    ·rw [if_neg c4]at H
     exact absurd H (by simp)
   ·rw [if_neg c3]at H
    have c3b0:decide (x6_1 <(l0.length:Int))=false:=decide_eq_false c3
    clear c3
    obtain rfl:=Option.some.inj H
    go_wp2
    go_ret
    exact⟨by first|rfl|(simp;done)|(simp [*];done),by repeat(first|exact Drawn0.refl _|apply Drawn0.step)⟩
end Go.Proofs.Ytjifalohjlihaaa.Q
end
section
namespace Go.Proofs.Ytjifalohjlihaaa.Q
open Go.RowKit Go.Proofs.YtjifalohjlihaaaW.PrintWords Go.Proofs.YtjifalohjlihaaaW.PrintLast Go.Proofs.YtjifalohjlihaaaW.PrintMore
attribute [local go_sem] max2_int min2_int max_two min_two max_three min_three max_four min_four
set_option linter.unusedVariables false
set_option linter.unusedSimpArgs false
mutual
def anillaw06_Placed.l0:Nat→List Int→List Int→Int→Int→List (S52)→List (S89)→List (S54)→List Int→List (S108)→Option (List Int)
 |0,_,_,_,_,_,_,_,_,_=>none
 |k+1,x1,x5,x6,x484000,x484001,x484002,x484003,x484004,x484005=>if x6 <(x484003.length:Int)then((anillaw06_word.f x1 x6).bind fun t484=>(if (x484002.length:Int)=0 then(none)else(anillaw06_Placed.l1 k x1 x5 x6 (Int.tmod t484 (x484002.length:Int)) 0 x484000 x484001 x484002 x484003 x484004 x484005)))else(some x5)
def anillaw06_Placed.l1:Nat→List Int→List Int→Int→Int→Int→Int→List (S52)→List (S89)→List (S54)→List Int→List (S108)→Option (List Int)
 |0,_,_,_,_,_,_,_,_,_,_,_=>none
 |k+1,x1,x5,x6,x7,x8,x484000,x484001,x484002,x484003,x484004,x484005=>if x8 <(x484002.length:Int)then((anillaw06_many.f k x5 x7).bind fun t485=>(if 0≤x7 then(if x7 <(x484002.length:Int)then(if t485≥((rd_T89 x484002 x7).f0)then(if (x484002.length:Int)=0 then(none)else(anillaw06_Placed.l1 k x1 x5 x6 (Int.tmod (wrap64 (x7+1)) (x484002.length:Int)) (wrap64 (x8+1)) x484000 x484001 x484002 x484003 x484004 x484005))else(if x5.length < 17592186044416 then(anillaw06_Placed.l0 k x1 (x5++ [x7]) (wrap64 (x6+1)) x484000 x484001 x484002 x484003 x484004 x484005)else(none)))else(none))else(none)))else(if x5.length < 17592186044416 then(anillaw06_Placed.l0 k x1 (x5++ [x7]) (wrap64 (x6+1)) x484000 x484001 x484002 x484003 x484004 x484005)else(none))
end
def anillaw06_Placed.f (k:Nat) (a0_0:Int) (l0_1:List (S52)) (l0_2:List (S89)) (l0_3:List (S54)) (l0_4:List Int) (l0_5:List (S108)) (l1:List Int):Option (List Int):=anillaw06_Placed.l0 k l1 ([]:List Int) 0 a0_0 l0_1 l0_2 l0_3 l0_4 l0_5
set_option maxHeartbeats 8000000 in
set_option maxRecDepth 100000 in
theorem anillaw06_Placed.calls (k:Nat) (a0_0:Int) (A0_1:Option Addr) (c0_1:Nat) (l0_1:List (S52)) (A0_2:Option Addr) (c0_2:Nat) (l0_2:List (S89)) (A0_3:Option Addr) (c0_3:Nat) (l0_3:List (S54)) (A0_4:Option Addr) (c0_4:Nat) (l0_4:List Int) (A0_5:Option Addr) (c0_5:Nat) (l0_5:List (S108)) (A1:Option Addr) (c1:Nat) (l1:List Int) (r:List Int) (w:World) (hr0_1:Kd.C k52 w A0_1 l0_1.length l0_1) (hc0_1:l0_1.length≤c0_1) (hr0_2:Kd.C k89 w A0_2 l0_2.length l0_2) (hc0_2:l0_2.length≤c0_2) (hr0_3:Kd.C k54 w A0_3 l0_3.length l0_3) (hc0_3:l0_3.length≤c0_3) (hr0_4:Kd.C (Kd.int .i64) w A0_4 l0_4.length l0_4) (hc0_4:l0_4.length≤c0_4) (hr0_5:Kd.C k108 w A0_5 l0_5.length l0_5) (hc0_5:l0_5.length≤c0_5) (hr1:Kd.C (Kd.int .u16) w A1 l1.length l1) (hc1:l1.length≤c1) (h:anillaw06_Placed.f k a0_0 l0_1 l0_2 l0_3 l0_4 l0_5 l1=some r):
  Calls Try.prog 44 #[.agg #[.int .i64 a0_0,.slice A0_1 l0_1.length c0_1,.slice A0_2 l0_2.length c0_2,.slice A0_3 l0_3.length c0_3,.slice A0_4 l0_4.length c0_4,.slice A0_5 l0_5.length c0_5],.slice A1 l1.length c1] w fun e w'=>∃v0_:Value,e= .returned (v0_)∧Kd.R (Kd.int .i64) 3 w' w.heap.size (fun _=>True) v0_ r∧Below w.heap.size w w':=by
 have hu28:=Try.underlying28
 have HR0_1:=Aside0.mk hr0_1
 have HC0_1:=Aside0.mk hc0_1
 clear hr0_1 hc0_1
 have HR0_2:=Aside0.mk hr0_2
 have HC0_2:=Aside0.mk hc0_2
 clear hr0_2 hc0_2
 have HR0_3:=Aside0.mk hr0_3
 have HC0_3:=Aside0.mk hc0_3
 clear hr0_3 hc0_3
 have HR0_4:=Aside0.mk hr0_4
 have HC0_4:=Aside0.mk hc0_4
 clear hr0_4 hc0_4
 have HR0_5:=Aside0.mk hr0_5
 have HC0_5:=Aside0.mk hc0_5
 clear hr0_5 hc0_5
 have HR1:=Aside0.mk hr1
 have HC1:=Aside0.mk hc1
 clear hr1 hc1
 have HB:=Aside0.mk (Below.refl w.heap.size w)
 have H:(anillaw06_Placed.l0 k l1 ([]:List Int) 0 a0_0 l0_1 l0_2 l0_3 l0_4 l0_5)=some r:=h
 clear h
 have H':=Aside0.mk H
 clear H
 go_enter Try.func44,Try.ntmps44
 go_wp2_with (first|((with_reducible refine gate_dst (N:=2) rfl ?_);refine box_event ?hg (N:=2) ?hd (cs:=#[.int .i64 a0_0,.slice A0_1 l0_1.length c0_1,.slice A0_2 l0_2.length c0_2,.slice A0_3 l0_3.length c0_3,.slice A0_4 l0_4.length c0_4,.slice A0_5 l0_5.length c0_5]) (t:=28) ?hr ?_;(case hd=>rfl);(case hg=>rfl);(case hr=>first|(go_simp;done)|(go_simp;rfl));intro gb483 hg w3 hbox hb;have n0_:=Aside0.mk (below_step (by repeat(first|(with_reducible first|exact HB.out|apply below_alloc|apply pw_below_drewN|apply below_drew1)|exact HB.out)) hb);have n1_:=Aside0.mk (hbox);have n2_:=Aside0.mk ((by rw [hg];exact(below_size (by repeat(first|(with_reducible first|exact HB.out|apply below_alloc|apply pw_below_drewN|apply below_drew1)|exact HB.out))):w.heap.size≤gb483));have n3_:=Aside0.mk ((by rw [hg];exact(below_size (by repeat(first|(with_reducible first|exact HB.out|apply below_alloc|apply pw_below_drewN|apply below_drew1)|exact HB.out))):w.heap.size≤gb483));clear HB;have HB:=n0_;have BK483:=n1_;have GW483:=n2_;have GE483:=n3_;clear n0_ n1_ n2_ n3_;clear hb hbox hg))
 repeat(go_quiet (first|((with_reducible refine gate_dst (N:=2) rfl ?_);refine box_event ?hg (N:=2) ?hd (cs:=#[.int .i64 a0_0,.slice A0_1 l0_1.length c0_1,.slice A0_2 l0_2.length c0_2,.slice A0_3 l0_3.length c0_3,.slice A0_4 l0_4.length c0_4,.slice A0_5 l0_5.length c0_5]) (t:=28) ?hr ?_;(case hd=>rfl);(case hg=>rfl);(case hr=>first|(go_simp;done)|(go_simp;rfl));intro gb483 hg w3 hbox hb;have n0_:=Aside0.mk (below_step (by repeat(first|(with_reducible first|exact HB.out|apply below_alloc|apply pw_below_drewN|apply below_drew1)|exact HB.out)) hb);have n1_:=Aside0.mk (hbox);have n2_:=Aside0.mk ((by rw [hg];exact(below_size (by repeat(first|(with_reducible first|exact HB.out|apply below_alloc|apply pw_below_drewN|apply below_drew1)|exact HB.out))):w.heap.size≤gb483));have n3_:=Aside0.mk ((by rw [hg];exact(below_size (by repeat(first|(with_reducible first|exact HB.out|apply below_alloc|apply pw_below_drewN|apply below_drew1)|exact HB.out))):w.heap.size≤gb483));clear HB;have HB:=n0_;have BK483:=n1_;have GW483:=n2_;have GE483:=n3_;clear n0_ n1_ n2_ n3_;clear hb hbox hg));try go_wp2_with (first|((with_reducible refine gate_dst (N:=2) rfl ?_);refine box_event ?hg (N:=2) ?hd (cs:=#[.int .i64 a0_0,.slice A0_1 l0_1.length c0_1,.slice A0_2 l0_2.length c0_2,.slice A0_3 l0_3.length c0_3,.slice A0_4 l0_4.length c0_4,.slice A0_5 l0_5.length c0_5]) (t:=28) ?hr ?_;(case hd=>rfl);(case hg=>rfl);(case hr=>first|(go_simp;done)|(go_simp;rfl));intro gb483 hg w3 hbox hb;have n0_:=Aside0.mk (below_step (by repeat(first|(with_reducible first|exact HB.out|apply below_alloc|apply pw_below_drewN|apply below_drew1)|exact HB.out)) hb);have n1_:=Aside0.mk (hbox);have n2_:=Aside0.mk ((by rw [hg];exact(below_size (by repeat(first|(with_reducible first|exact HB.out|apply below_alloc|apply pw_below_drewN|apply below_drew1)|exact HB.out))):w.heap.size≤gb483));have n3_:=Aside0.mk ((by rw [hg];exact(below_size (by repeat(first|(with_reducible first|exact HB.out|apply below_alloc|apply pw_below_drewN|apply below_drew1)|exact HB.out))):w.heap.size≤gb483));clear HB;have HB:=n0_;have BK483:=n1_;have GW483:=n2_;have GE483:=n3_;clear n0_ n1_ n2_ n3_;clear hb hbox hg)))
 go_loopg [5,6] k (fun kq v5 v6 w'=>∃(x5_1:List Int) (x6_1:Int),v6= .int .i64 x6_1∧Aside0 (anillaw06_Placed.l0 kq l1 x5_1 x6_1 a0_0 l0_1 l0_2 l0_3 l0_4 l0_5=some r)∧Aside0 (kq≤k)∧Aside0 (Kd.R (Kd.int .i64) 3 w' w.heap.size (fun _=>True) v5 x5_1)∧Aside0 (w'.heap[gb483]? =some (.cells #[.int .i64 a0_0,(.slice A0_1 l0_1.length c0_1),(.slice A0_2 l0_2.length c0_2),(.slice A0_3 l0_3.length c0_3),(.slice A0_4 l0_4.length c0_4),(.slice A0_5 l0_5.length c0_5)] 28 (0,0)))∧Aside0 (Below w.heap.size w w'))
 case atStart=>exact⟨(([]:List Int)),(0),(by first|rfl|(simp;done)|(simp [*];done)),H',⟨Nat.le_refl _⟩,⟨by first|exact Kd.R_nil _ _ _ _ _|exact Kd.N_nil _ _ _ _ _|exact Kd.V_nil _ _ _ _ _|exact Kd.Q_nil _ _ _ _ _|exact Kd.S_nil _ _ _ _ _⟩,⟨by(with_reducible repeat(first|refine blk_drewN ?_ _|refine blk_drew ?_|refine blk_alloc ?_ _));exact BK483.out⟩,⟨by repeat(first|(with_reducible first|exact HB.out|apply below_alloc|apply pw_below_drewN|apply below_drew1|refine below_set ?_ GE483.out)|exact HB.out)⟩⟩
 case round=>
  clear H'
  try clear c1
  try clear p2
  obtain⟨x5_1,x6_1,rfl,HA,HK1,HO_5,BK483,HB⟩:=hrel
  cases gk with
  |zero=>exact absurd HA.out (by simp [anillaw06_Placed.l0])
  |succ k1=>
   have H:=HA.out
   clear HA
   simp only [anillaw06_Placed.l0]at H
   by_cases c4:x6_1 <(l0_3.length:Int)
   ·rw [if_pos c4]at H
    have c4b0:decide (x6_1 <(l0_3.length:Int))=true:=decide_eq_true c4
    clear c4
    replace H:=Option.bind_eq_some_iff.mp H
    obtain⟨t484,A50,H⟩:=H
    replace H:(if (l0_2.length:Int)=0 then(none)else(anillaw06_Placed.l1 k1 l1 x5_1 x6_1 (Int.tmod t484 (l0_2.length:Int)) 0 a0_0 l0_1 l0_2 l0_3 l0_4 l0_5))=some r:=H
    have A5:=Aside0.mk A50
    clear A50
    by_cases c6:(l0_2.length:Int)=0
    ·rw [if_pos c6]at H
     exact absurd H (by simp)
    ·rw [if_neg c6]at H
     have c6b0:((l0_2.length:Int)==0)=false:=beq_eq_false_iff_ne.mpr c6
     have c6b1:((l0_2.length:Int) !=0)=true:=bne_iff_ne.mpr c6
     have c6b2:¬(l0_2= []):=fun h_=>c6 (by rw [h_];rfl)
     have H':=Aside0.mk H
     clear H
     have hcz7_0:wr.cell? ⟨gb483,0,none⟩=some (.int .i64 a0_0):=(blk_cell BK483.out 0).trans rfl
     have hcz7_1:wr.cell? ⟨gb483,1,none⟩=some (.slice A0_1 l0_1.length c0_1):=(blk_cell BK483.out 1).trans rfl
     have hcz7_2:wr.cell? ⟨gb483,2,none⟩=some (.slice A0_2 l0_2.length c0_2):=(blk_cell BK483.out 2).trans rfl
     have hcz7_3:wr.cell? ⟨gb483,3,none⟩=some (.slice A0_3 l0_3.length c0_3):=(blk_cell BK483.out 3).trans rfl
     have hcz7_4:wr.cell? ⟨gb483,4,none⟩=some (.slice A0_4 l0_4.length c0_4):=(blk_cell BK483.out 4).trans rfl
     have hcz7_5:wr.cell? ⟨gb483,5,none⟩=some (.slice A0_5 l0_5.length c0_5):=(blk_cell BK483.out 5).trans rfl
     have hfz7_0:=blk_frozen BK483.out 0
     have hfz7_1:=blk_frozen BK483.out 1
     have hfz7_2:=blk_frozen BK483.out 2
     have hfz7_3:=blk_frozen BK483.out 3
     have hfz7_4:=blk_frozen BK483.out 4
     have hfz7_5:=blk_frozen BK483.out 5
     go_wp2_with (first|(go_at_call 91;(with_reducible refine(anillaw06_word.calls _ _ l1 x6_1 t484 _ ?side1 ?side2 A5.out).mono ?_);(case side1=>repeat(first|exact(Kd.C_below HR1.out HB.out)|(with_reducible refine Kd.C_alloc ?_ _)|(with_reducible refine Kd.C_drewN ?_ _)|(with_reducible refine Kd.C_drew ?_)));(case side2=>exact HC1.out);rintro e w' ⟨rfl,⟨nd,rfl⟩⟩;(try first|exact⟨rfl,_,World.drewN_drewN _ _ _⟩|exact⟨rfl,_,Eq.trans (World.drewN_drewN _ _ _) (congrArg (World.drewN _) (Nat.add_assoc _ _ _))⟩)))
     repeat(go_quiet (first|(go_at_call 91;(with_reducible refine(anillaw06_word.calls _ _ l1 x6_1 t484 _ ?side1 ?side2 A5.out).mono ?_);(case side1=>repeat(first|exact(Kd.C_below HR1.out HB.out)|(with_reducible refine Kd.C_alloc ?_ _)|(with_reducible refine Kd.C_drewN ?_ _)|(with_reducible refine Kd.C_drew ?_)));(case side2=>exact HC1.out);rintro e w' ⟨rfl,⟨nd,rfl⟩⟩;(try first|exact⟨rfl,_,World.drewN_drewN _ _ _⟩|exact⟨rfl,_,Eq.trans (World.drewN_drewN _ _ _) (congrArg (World.drewN _) (Nat.add_assoc _ _ _))⟩)));try go_wp2_with (first|(go_at_call 91;(with_reducible refine(anillaw06_word.calls _ _ l1 x6_1 t484 _ ?side1 ?side2 A5.out).mono ?_);(case side1=>repeat(first|exact(Kd.C_below HR1.out HB.out)|(with_reducible refine Kd.C_alloc ?_ _)|(with_reducible refine Kd.C_drewN ?_ _)|(with_reducible refine Kd.C_drew ?_)));(case side2=>exact HC1.out);rintro e w' ⟨rfl,⟨nd,rfl⟩⟩;(try first|exact⟨rfl,_,World.drewN_drewN _ _ _⟩|exact⟨rfl,_,Eq.trans (World.drewN_drewN _ _ _) (congrArg (World.drewN _) (Nat.add_assoc _ _ _))⟩))))
     go_loopg [7,8] k1 (fun kq v7 v8 w'=>∃(x7_2:Int) (x8_2:Int),v7= .int .i64 x7_2∧v8= .int .i64 x8_2∧Aside0 (anillaw06_Placed.l1 kq l1 x5_1 x6_1 x7_2 x8_2 a0_0 l0_1 l0_2 l0_3 l0_4 l0_5=some r)∧Aside0 (kq≤k1)∧Aside0 (Kd.R (Kd.int .i64) 3 w' w.heap.size (fun _=>True) u5 x5_1)∧Aside0 (w'.heap[gb483]? =some (.cells #[.int .i64 a0_0,(.slice A0_1 l0_1.length c0_1),(.slice A0_2 l0_2.length c0_2),(.slice A0_3 l0_3.length c0_3),(.slice A0_4 l0_4.length c0_4),(.slice A0_5 l0_5.length c0_5)] 28 (0,0)))∧Aside0 (Below w.heap.size w w'))
     case atStart=>exact⟨(Int.tmod t484 (l0_2.length:Int)),(0),(by first|rfl|(simp;done)|(simp [*];done)),(by first|rfl|(simp;done)|(simp [*];done)),H',⟨Nat.le_refl _⟩,⟨by(with_reducible repeat(first|apply Kd.R_alloc|apply Kd.R_drewN|apply Kd.R_drew));exact HO_5.out⟩,⟨by(with_reducible repeat(first|refine blk_drewN ?_ _|refine blk_drew ?_|refine blk_alloc ?_ _));exact BK483.out⟩,⟨by repeat(first|(with_reducible first|exact HB.out|apply below_alloc|apply pw_below_drewN|apply below_drew1|refine below_set ?_ GE483.out)|exact HB.out)⟩⟩
     case round=>
      clear H'
      try clear c1
      try clear p2
      try clear c4
      try clear c4b0
      try clear c6
      try clear c6b0
      try clear c6b1
      try clear c6b2
      try clear hcz7_0
      try clear hcz7_1
      try clear hcz7_2
      try clear hcz7_3
      try clear hcz7_4
      try clear hcz7_5
      try clear hfz7_0
      try clear hfz7_1
      try clear hfz7_2
      try clear hfz7_3
      try clear hfz7_4
      try clear hfz7_5
      try clear p2
      obtain⟨x7_2,x8_2,rfl,rfl,HA,HK2,HO_5,BK483,HB⟩:=hrel
      cases gk with
      |zero=>exact absurd HA.out (by simp [anillaw06_Placed.l1])
      |succ k2=>
       have H:=HA.out
       clear HA
       simp only [anillaw06_Placed.l1]at H
       by_cases c8:x8_2 <(l0_2.length:Int)
       ·rw [if_pos c8]at H
        have c8b0:decide (x8_2 <(l0_2.length:Int))=true:=decide_eq_true c8
        clear c8
        replace H:=Option.bind_eq_some_iff.mp H
        obtain⟨t485,A90,H⟩:=H
        replace H:(if 0≤x7_2 then(if x7_2 <(l0_2.length:Int)then(if t485≥((rd_T89 l0_2 x7_2).f0)then(if (l0_2.length:Int)=0 then(none)else(anillaw06_Placed.l1 k2 l1 x5_1 x6_1 (Int.tmod (wrap64 (x7_2+1)) (l0_2.length:Int)) (wrap64 (x8_2+1)) a0_0 l0_1 l0_2 l0_3 l0_4 l0_5))else(if x5_1.length < 17592186044416 then(anillaw06_Placed.l0 k2 l1 (x5_1++ [x7_2]) (wrap64 (x6_1+1)) a0_0 l0_1 l0_2 l0_3 l0_4 l0_5)else(none)))else(none))else(none))=some r:=H
        have A9:=Aside0.mk A90
        clear A90
        by_cases c10:0≤x7_2
        ·rw [if_pos c10]at H
         have c10b0:decide (0≤x7_2)=true:=decide_eq_true c10
         clear c10
         by_cases c11:x7_2 <(l0_2.length:Int)
         ·rw [if_pos c11]at H
          have c11b0:decide (x7_2 <(l0_2.length:Int))=true:=decide_eq_true c11
          clear c11
          by_cases c12:t485≥((rd_T89 l0_2 x7_2).f0)
          ·rw [if_pos c12]at H
           have c12b0:decide (((rd_T89 l0_2 x7_2).f0)≤t485)=true:=decide_eq_true c12
           clear c12
           by_cases c13:(l0_2.length:Int)=0
           ·rw [if_pos c13]at H
            exact absurd H (by simp)
           ·rw [if_neg c13]at H
            have c13b0:((l0_2.length:Int)==0)=false:=beq_eq_false_iff_ne.mpr c13
            have c13b1:((l0_2.length:Int) !=0)=true:=bne_iff_ne.mpr c13
            have c13b2:¬(l0_2= []):=fun h_=>c13 (by rw [h_];rfl)
            have H':=Aside0.mk H
            clear H
            have hcz14_0:wr.cell? ⟨gb483,0,none⟩=some (.int .i64 a0_0):=(blk_cell BK483.out 0).trans rfl
            have hcz14_1:wr.cell? ⟨gb483,1,none⟩=some (.slice A0_1 l0_1.length c0_1):=(blk_cell BK483.out 1).trans rfl
            have hcz14_2:wr.cell? ⟨gb483,2,none⟩=some (.slice A0_2 l0_2.length c0_2):=(blk_cell BK483.out 2).trans rfl
            have hcz14_3:wr.cell? ⟨gb483,3,none⟩=some (.slice A0_3 l0_3.length c0_3):=(blk_cell BK483.out 3).trans rfl
            have hcz14_4:wr.cell? ⟨gb483,4,none⟩=some (.slice A0_4 l0_4.length c0_4):=(blk_cell BK483.out 4).trans rfl
            have hcz14_5:wr.cell? ⟨gb483,5,none⟩=some (.slice A0_5 l0_5.length c0_5):=(blk_cell BK483.out 5).trans rfl
            have hfz14_0:=blk_frozen BK483.out 0
            have hfz14_1:=blk_frozen BK483.out 1
            have hfz14_2:=blk_frozen BK483.out 2
            have hfz14_3:=blk_frozen BK483.out 3
            have hfz14_4:=blk_frozen BK483.out 4
            have hfz14_5:=blk_frozen BK483.out 5
            obtain⟨Ao15,co15,eo15⟩:=Kd.R_slice HO_5.out
            subst eo15
            go_wp2_with (first|(go_at_call 92;(with_reducible refine(anillaw06_many.calls k2 _ _ x5_1 x7_2 t485 _ ?side1 ?side2 A9.out).mono ?_);(case side1=>repeat(first|exact(Kd.R_reads' HO_5.out).2.2|(with_reducible refine Kd.C_alloc ?_ _)|(with_reducible refine Kd.C_drewN ?_ _)|(with_reducible refine Kd.C_drew ?_)));(case side2=>exact(Kd.R_reads' HO_5.out).2.1);rintro e w' ⟨rfl,⟨nd,rfl⟩⟩;(try first|exact⟨rfl,_,World.drewN_drewN _ _ _⟩|exact⟨rfl,_,Eq.trans (World.drewN_drewN _ _ _) (congrArg (World.drewN _) (Nat.add_assoc _ _ _))⟩);have p486:0≤(x7_2:Int):=of_decide_eq_true (by first|(with_reducible assumption)|assumption);have q486:x7_2 <(l0_2.length:Int):=of_decide_eq_true (by first|(with_reducible assumption)|assumption);obtain⟨ad486,e486,hx486_0,hx486_1⟩:=at_T89 HR0_2.out x7_2 p486 q486;cases e486;replace hx486_0:=(HB.out.cell (World.block_lt_of_cell? w _ hx486_0)).trans hx486_0;replace hx486_1:=(HB.out.cell (World.block_lt_of_cell? w _ hx486_1)).trans hx486_1;replace p486:=eq_true p486;replace q486:=eq_true q486))
            repeat(go_quiet (first|(go_at_call 92;(with_reducible refine(anillaw06_many.calls k2 _ _ x5_1 x7_2 t485 _ ?side1 ?side2 A9.out).mono ?_);(case side1=>repeat(first|exact(Kd.R_reads' HO_5.out).2.2|(with_reducible refine Kd.C_alloc ?_ _)|(with_reducible refine Kd.C_drewN ?_ _)|(with_reducible refine Kd.C_drew ?_)));(case side2=>exact(Kd.R_reads' HO_5.out).2.1);rintro e w' ⟨rfl,⟨nd,rfl⟩⟩;(try first|exact⟨rfl,_,World.drewN_drewN _ _ _⟩|exact⟨rfl,_,Eq.trans (World.drewN_drewN _ _ _) (congrArg (World.drewN _) (Nat.add_assoc _ _ _))⟩);have p486:0≤(x7_2:Int):=of_decide_eq_true (by first|(with_reducible assumption)|assumption);have q486:x7_2 <(l0_2.length:Int):=of_decide_eq_true (by first|(with_reducible assumption)|assumption);obtain⟨ad486,e486,hx486_0,hx486_1⟩:=at_T89 HR0_2.out x7_2 p486 q486;cases e486;replace hx486_0:=(HB.out.cell (World.block_lt_of_cell? w _ hx486_0)).trans hx486_0;replace hx486_1:=(HB.out.cell (World.block_lt_of_cell? w _ hx486_1)).trans hx486_1;replace p486:=eq_true p486;replace q486:=eq_true q486));try go_wp2_with (first|(go_at_call 92;(with_reducible refine(anillaw06_many.calls k2 _ _ x5_1 x7_2 t485 _ ?side1 ?side2 A9.out).mono ?_);(case side1=>repeat(first|exact(Kd.R_reads' HO_5.out).2.2|(with_reducible refine Kd.C_alloc ?_ _)|(with_reducible refine Kd.C_drewN ?_ _)|(with_reducible refine Kd.C_drew ?_)));(case side2=>exact(Kd.R_reads' HO_5.out).2.1);rintro e w' ⟨rfl,⟨nd,rfl⟩⟩;(try first|exact⟨rfl,_,World.drewN_drewN _ _ _⟩|exact⟨rfl,_,Eq.trans (World.drewN_drewN _ _ _) (congrArg (World.drewN _) (Nat.add_assoc _ _ _))⟩);have p486:0≤(x7_2:Int):=of_decide_eq_true (by first|(with_reducible assumption)|assumption);have q486:x7_2 <(l0_2.length:Int):=of_decide_eq_true (by first|(with_reducible assumption)|assumption);obtain⟨ad486,e486,hx486_0,hx486_1⟩:=at_T89 HR0_2.out x7_2 p486 q486;cases e486;replace hx486_0:=(HB.out.cell (World.block_lt_of_cell? w _ hx486_0)).trans hx486_0;replace hx486_1:=(HB.out.cell (World.block_lt_of_cell? w _ hx486_1)).trans hx486_1;replace p486:=eq_true p486;replace q486:=eq_true q486)))
            go_roundg k2
            case measure=>have:=HK1.out;have:=HK2.out;omega
            case rel=>exact⟨(Int.tmod (wrap64 (x7_2+1)) (l0_2.length:Int)),(wrap64 (x8_2+1)),(by first|rfl|(simp;done)|(simp [*];done)),(by first|rfl|(simp;done)|(simp [*];done)),H',⟨by have:=HK1.out;have:=HK2.out;omega⟩,⟨by(with_reducible repeat(first|apply Kd.R_alloc|apply Kd.R_drewN|apply Kd.R_drew));exact HO_5.out⟩,⟨by(with_reducible repeat(first|refine blk_drewN ?_ _|refine blk_drew ?_|refine blk_alloc ?_ _));exact BK483.out⟩,⟨by repeat(first|(with_reducible first|exact HB.out|apply below_alloc|apply pw_below_drewN|apply below_drew1|refine below_set ?_ GE483.out)|exact HB.out)⟩⟩
          ·rw [if_neg c12]at H
           have c12b0:decide (((rd_T89 l0_2 x7_2).f0)≤t485)=false:=decide_eq_false c12
           clear c12
           by_cases c16:x5_1.length < 17592186044416
           ·rw [if_pos c16]at H
            have LMc16:=Aside0.mk c16
            clear c16
            obtain⟨y487,hy487⟩:∃y_:List Int,y_=(x5_1++ [x7_2]):=⟨_,rfl⟩
            replace H:(anillaw06_Placed.l0 k2 l1 y487 (wrap64 (x6_1+1)) a0_0 l0_1 l0_2 l0_3 l0_4 l0_5)=some r:=by first|(rw [hy487];with_reducible exact H)|(have H2_:=(Option.bind_some _ _).symm.trans H;rw [hy487];with_reducible exact H2_)|(have H2_:=(Option.bind_some _ _).symm.trans H;with_reducible exact H2_)|with_reducible exact H|(rw [hy487];exact H)|exact H
            have Ny487:=Aside0.mk hy487
            clear hy487
            have H':=Aside0.mk H
            clear H
            have hcz17_0:wr.cell? ⟨gb483,0,none⟩=some (.int .i64 a0_0):=(blk_cell BK483.out 0).trans rfl
            have hcz17_1:wr.cell? ⟨gb483,1,none⟩=some (.slice A0_1 l0_1.length c0_1):=(blk_cell BK483.out 1).trans rfl
            have hcz17_2:wr.cell? ⟨gb483,2,none⟩=some (.slice A0_2 l0_2.length c0_2):=(blk_cell BK483.out 2).trans rfl
            have hcz17_3:wr.cell? ⟨gb483,3,none⟩=some (.slice A0_3 l0_3.length c0_3):=(blk_cell BK483.out 3).trans rfl
            have hcz17_4:wr.cell? ⟨gb483,4,none⟩=some (.slice A0_4 l0_4.length c0_4):=(blk_cell BK483.out 4).trans rfl
            have hcz17_5:wr.cell? ⟨gb483,5,none⟩=some (.slice A0_5 l0_5.length c0_5):=(blk_cell BK483.out 5).trans rfl
            have hfz17_0:=blk_frozen BK483.out 0
            have hfz17_1:=blk_frozen BK483.out 1
            have hfz17_2:=blk_frozen BK483.out 2
            have hfz17_3:=blk_frozen BK483.out 3
            have hfz17_4:=blk_frozen BK483.out 4
            have hfz17_5:=blk_frozen BK483.out 5
            obtain⟨Ao18,co18,eo18⟩:=Kd.R_slice HO_5.out
            subst eo18
            go_wp2_with (first|(go_at_call 92;(with_reducible refine(anillaw06_many.calls k2 _ _ x5_1 x7_2 t485 _ ?side1 ?side2 A9.out).mono ?_);(case side1=>repeat(first|exact(Kd.R_reads' HO_5.out).2.2|(with_reducible refine Kd.C_alloc ?_ _)|(with_reducible refine Kd.C_drewN ?_ _)|(with_reducible refine Kd.C_drew ?_)));(case side2=>exact(Kd.R_reads' HO_5.out).2.1);rintro e w' ⟨rfl,⟨nd,rfl⟩⟩;(try first|exact⟨rfl,_,World.drewN_drewN _ _ _⟩|exact⟨rfl,_,Eq.trans (World.drewN_drewN _ _ _) (congrArg (World.drewN _) (Nat.add_assoc _ _ _))⟩);have p486:0≤(x7_2:Int):=of_decide_eq_true (by first|(with_reducible assumption)|assumption);have q486:x7_2 <(l0_2.length:Int):=of_decide_eq_true (by first|(with_reducible assumption)|assumption);obtain⟨ad486,e486,hx486_0,hx486_1⟩:=at_T89 HR0_2.out x7_2 p486 q486;cases e486;replace hx486_0:=(HB.out.cell (World.block_lt_of_cell? w _ hx486_0)).trans hx486_0;replace hx486_1:=(HB.out.cell (World.block_lt_of_cell? w _ hx486_1)).trans hx486_1;replace p486:=eq_true p486;replace q486:=eq_true q486)|((with_reducible refine gate_builtin (b:= .append) (xs:=#[.tmp 48,.tmp 50]) rfl ?_);at_builtin;refine Kd.R_append (Kd.int .i64) (w0:=w) w.heap.size rfl (.tmp 48) (.tmp 50) 25 3 (.int .i64 0) 8 rfl Try.underlying25 info3 rfl (by decide) (by omega) (.slice Ao18 x5_1.length co18) x5_1 x7_2 [.int .i64 x7_2] (fun _=>True) (fun _=>False) rfl rfl ?aP (fun _ hk=>hk.elim) ?aF ?aO ?aB ?aS ?aL ?_;(case aP=>exact rfl);(case aB=>exact(by repeat(first|(with_reducible first|exact HB.out|apply below_alloc|apply pw_below_drewN|apply below_drew1|refine below_set ?_ GE483.out)|exact HB.out)));(case aF=>exact(fun _ _=>trivial));(case aO=>exact(by(with_reducible repeat(first|apply Kd.R_alloc|apply Kd.R_drewN|apply Kd.R_drew));exact HO_5.out));(case aS=>exact(below_size (by repeat(first|(with_reducible first|exact HB.out|apply below_alloc|apply pw_below_drewN|apply below_drew1|refine below_set ?_ GE483.out)|exact HB.out))));(case aL=>have:=LMc16.out;omega);intro v488 w19 ho hb hg hat;rw [←Ny487.out]at ho;have n0_:=Aside0.mk (blk_grown (g:=gb483) (o:= .cells #[.int .i64 a0_0,.slice A0_1 l0_1.length c0_1,.slice (some ad486) l0_2.length c0_2,.slice A0_3 l0_3.length c0_3,.slice A0_4 l0_4.length c0_4,.slice A0_5 l0_5.length c0_5] 28 (0,0)) (by(with_reducible repeat(first|refine blk_drewN ?_ _|refine blk_drew ?_|refine blk_alloc ?_ _));exact BK483.out) hg (Kd.R_ne HO_5.out BK483.out (by decide)));have n1_:=Aside0.mk (hb);have n2_:=Aside0.mk (ho);clear BK483;clear HB;clear HO_5;have BK483:=n0_;have HB:=n1_;have HO489:=n2_;clear n0_ n1_ n2_;clear ho hb hg hat))
            repeat(go_quiet (first|(go_at_call 92;(with_reducible refine(anillaw06_many.calls k2 _ _ x5_1 x7_2 t485 _ ?side1 ?side2 A9.out).mono ?_);(case side1=>repeat(first|exact(Kd.R_reads' HO_5.out).2.2|(with_reducible refine Kd.C_alloc ?_ _)|(with_reducible refine Kd.C_drewN ?_ _)|(with_reducible refine Kd.C_drew ?_)));(case side2=>exact(Kd.R_reads' HO_5.out).2.1);rintro e w' ⟨rfl,⟨nd,rfl⟩⟩;(try first|exact⟨rfl,_,World.drewN_drewN _ _ _⟩|exact⟨rfl,_,Eq.trans (World.drewN_drewN _ _ _) (congrArg (World.drewN _) (Nat.add_assoc _ _ _))⟩);have p486:0≤(x7_2:Int):=of_decide_eq_true (by first|(with_reducible assumption)|assumption);have q486:x7_2 <(l0_2.length:Int):=of_decide_eq_true (by first|(with_reducible assumption)|assumption);obtain⟨ad486,e486,hx486_0,hx486_1⟩:=at_T89 HR0_2.out x7_2 p486 q486;cases e486;replace hx486_0:=(HB.out.cell (World.block_lt_of_cell? w _ hx486_0)).trans hx486_0;replace hx486_1:=(HB.out.cell (World.block_lt_of_cell? w _ hx486_1)).trans hx486_1;replace p486:=eq_true p486;replace q486:=eq_true q486)|((with_reducible refine gate_builtin (b:= .append) (xs:=#[.tmp 48,.tmp 50]) rfl ?_);at_builtin;refine Kd.R_append (Kd.int .i64) (w0:=w) w.heap.size rfl (.tmp 48) (.tmp 50) 25 3 (.int .i64 0) 8 rfl Try.underlying25 info3 rfl (by decide) (by omega) (.slice Ao18 x5_1.length co18) x5_1 x7_2 [.int .i64 x7_2] (fun _=>True) (fun _=>False) rfl rfl ?aP (fun _ hk=>hk.elim) ?aF ?aO ?aB ?aS ?aL ?_;(case aP=>exact rfl);(case aB=>exact(by repeat(first|(with_reducible first|exact HB.out|apply below_alloc|apply pw_below_drewN|apply below_drew1|refine below_set ?_ GE483.out)|exact HB.out)));(case aF=>exact(fun _ _=>trivial));(case aO=>exact(by(with_reducible repeat(first|apply Kd.R_alloc|apply Kd.R_drewN|apply Kd.R_drew));exact HO_5.out));(case aS=>exact(below_size (by repeat(first|(with_reducible first|exact HB.out|apply below_alloc|apply pw_below_drewN|apply below_drew1|refine below_set ?_ GE483.out)|exact HB.out))));(case aL=>have:=LMc16.out;omega);intro v488 w19 ho hb hg hat;rw [←Ny487.out]at ho;have n0_:=Aside0.mk (blk_grown (g:=gb483) (o:= .cells #[.int .i64 a0_0,.slice A0_1 l0_1.length c0_1,.slice (some ad486) l0_2.length c0_2,.slice A0_3 l0_3.length c0_3,.slice A0_4 l0_4.length c0_4,.slice A0_5 l0_5.length c0_5] 28 (0,0)) (by(with_reducible repeat(first|refine blk_drewN ?_ _|refine blk_drew ?_|refine blk_alloc ?_ _));exact BK483.out) hg (Kd.R_ne HO_5.out BK483.out (by decide)));have n1_:=Aside0.mk (hb);have n2_:=Aside0.mk (ho);clear BK483;clear HB;clear HO_5;have BK483:=n0_;have HB:=n1_;have HO489:=n2_;clear n0_ n1_ n2_;clear ho hb hg hat));try go_wp2_with (first|(go_at_call 92;(with_reducible refine(anillaw06_many.calls k2 _ _ x5_1 x7_2 t485 _ ?side1 ?side2 A9.out).mono ?_);(case side1=>repeat(first|exact(Kd.R_reads' HO_5.out).2.2|(with_reducible refine Kd.C_alloc ?_ _)|(with_reducible refine Kd.C_drewN ?_ _)|(with_reducible refine Kd.C_drew ?_)));(case side2=>exact(Kd.R_reads' HO_5.out).2.1);rintro e w' ⟨rfl,⟨nd,rfl⟩⟩;(try first|exact⟨rfl,_,World.drewN_drewN _ _ _⟩|exact⟨rfl,_,Eq.trans (World.drewN_drewN _ _ _) (congrArg (World.drewN _) (Nat.add_assoc _ _ _))⟩);have p486:0≤(x7_2:Int):=of_decide_eq_true (by first|(with_reducible assumption)|assumption);have q486:x7_2 <(l0_2.length:Int):=of_decide_eq_true (by first|(with_reducible assumption)|assumption);obtain⟨ad486,e486,hx486_0,hx486_1⟩:=at_T89 HR0_2.out x7_2 p486 q486;cases e486;replace hx486_0:=(HB.out.cell (World.block_lt_of_cell? w _ hx486_0)).trans hx486_0;replace hx486_1:=(HB.out.cell (World.block_lt_of_cell? w _ hx486_1)).trans hx486_1;replace p486:=eq_true p486;replace q486:=eq_true q486)|((with_reducible refine gate_builtin (b:= .append) (xs:=#[.tmp 48,.tmp 50]) rfl ?_);at_builtin;refine Kd.R_append (Kd.int .i64) (w0:=w) w.heap.size rfl (.tmp 48) (.tmp 50) 25 3 (.int .i64 0) 8 rfl Try.underlying25 info3 rfl (by decide) (by omega) (.slice Ao18 x5_1.length co18) x5_1 x7_2 [.int .i64 x7_2] (fun _=>True) (fun _=>False) rfl rfl ?aP (fun _ hk=>hk.elim) ?aF ?aO ?aB ?aS ?aL ?_;(case aP=>exact rfl);(case aB=>exact(by repeat(first|(with_reducible first|exact HB.out|apply below_alloc|apply pw_below_drewN|apply below_drew1|refine below_set ?_ GE483.out)|exact HB.out)));(case aF=>exact(fun _ _=>trivial));(case aO=>exact(by(with_reducible repeat(first|apply Kd.R_alloc|apply Kd.R_drewN|apply Kd.R_drew));exact HO_5.out));(case aS=>exact(below_size (by repeat(first|(with_reducible first|exact HB.out|apply below_alloc|apply pw_below_drewN|apply below_drew1|refine below_set ?_ GE483.out)|exact HB.out))));(case aL=>have:=LMc16.out;omega);intro v488 w19 ho hb hg hat;rw [←Ny487.out]at ho;have n0_:=Aside0.mk (blk_grown (g:=gb483) (o:= .cells #[.int .i64 a0_0,.slice A0_1 l0_1.length c0_1,.slice (some ad486) l0_2.length c0_2,.slice A0_3 l0_3.length c0_3,.slice A0_4 l0_4.length c0_4,.slice A0_5 l0_5.length c0_5] 28 (0,0)) (by(with_reducible repeat(first|refine blk_drewN ?_ _|refine blk_drew ?_|refine blk_alloc ?_ _));exact BK483.out) hg (Kd.R_ne HO_5.out BK483.out (by decide)));have n1_:=Aside0.mk (hb);have n2_:=Aside0.mk (ho);clear BK483;clear HB;clear HO_5;have BK483:=n0_;have HB:=n1_;have HO489:=n2_;clear n0_ n1_ n2_;clear ho hb hg hat)))
            go_roundg k2
            case measure=>have:=HK1.out;have:=HK2.out;omega
            case rel=>exact⟨(y487),(wrap64 (x6_1+1)),(by first|rfl|(simp;done)|(simp [*];done)),H',⟨by have:=HK1.out;have:=HK2.out;omega⟩,⟨by(with_reducible repeat(first|apply Kd.R_alloc|apply Kd.R_drewN|apply Kd.R_drew));exact HO489.out⟩,⟨by(with_reducible repeat(first|refine blk_drewN ?_ _|refine blk_drew ?_|refine blk_alloc ?_ _));exact BK483.out⟩,⟨by repeat(first|(with_reducible first|exact HB.out|apply below_alloc|apply pw_below_drewN|apply below_drew1|refine below_set ?_ GE483.out)|exact HB.out)⟩⟩
           ·rw [if_neg c16]at H
            exact absurd H (by simp)
         ·rw [if_neg c11]at H
          exact absurd H (by simp)
        ·rw [if_neg c10]at H
         exact absurd H (by simp)
       ·rw [if_neg c8]at H
        have c8b0:decide (x8_2 <(l0_2.length:Int))=false:=decide_eq_false c8
        clear c8
        by_cases c20:x5_1.length < 17592186044416
        ·rw [if_pos c20]at H
         have LMc20:=Aside0.mk c20
         clear c20
         obtain⟨y490,hy490⟩:∃y_:List Int,y_=(x5_1++ [x7_2]):=⟨_,rfl⟩
         replace H:(anillaw06_Placed.l0 k2 l1 y490 (wrap64 (x6_1+1)) a0_0 l0_1 l0_2 l0_3 l0_4 l0_5)=some r:=by first|(rw [hy490];with_reducible exact H)|(have H2_:=(Option.bind_some _ _).symm.trans H;rw [hy490];with_reducible exact H2_)|(have H2_:=(Option.bind_some _ _).symm.trans H;with_reducible exact H2_)|with_reducible exact H|(rw [hy490];exact H)|exact H
         have Ny490:=Aside0.mk hy490
         clear hy490
         have H':=Aside0.mk H
         clear H
         have hcz21_0:wr.cell? ⟨gb483,0,none⟩=some (.int .i64 a0_0):=(blk_cell BK483.out 0).trans rfl
         have hcz21_1:wr.cell? ⟨gb483,1,none⟩=some (.slice A0_1 l0_1.length c0_1):=(blk_cell BK483.out 1).trans rfl
         have hcz21_2:wr.cell? ⟨gb483,2,none⟩=some (.slice A0_2 l0_2.length c0_2):=(blk_cell BK483.out 2).trans rfl
         have hcz21_3:wr.cell? ⟨gb483,3,none⟩=some (.slice A0_3 l0_3.length c0_3):=(blk_cell BK483.out 3).trans rfl
         have hcz21_4:wr.cell? ⟨gb483,4,none⟩=some (.slice A0_4 l0_4.length c0_4):=(blk_cell BK483.out 4).trans rfl
         have hcz21_5:wr.cell? ⟨gb483,5,none⟩=some (.slice A0_5 l0_5.length c0_5):=(blk_cell BK483.out 5).trans rfl
         have hfz21_0:=blk_frozen BK483.out 0
         have hfz21_1:=blk_frozen BK483.out 1
         have hfz21_2:=blk_frozen BK483.out 2
         have hfz21_3:=blk_frozen BK483.out 3
         have hfz21_4:=blk_frozen BK483.out 4
         have hfz21_5:=blk_frozen BK483.out 5
         go_wp2_with (first|((with_reducible refine gate_builtin (b:= .append) (xs:=#[.tmp 48,.tmp 50]) rfl ?_);at_builtin;refine Kd.R_append (Kd.int .i64) (w0:=w) w.heap.size rfl (.tmp 48) (.tmp 50) 25 3 (.int .i64 0) 8 rfl Try.underlying25 info3 rfl (by decide) (by omega) u5 x5_1 x7_2 [.int .i64 x7_2] (fun _=>True) (fun _=>False) rfl rfl ?aP (fun _ hk=>hk.elim) ?aF ?aO ?aB ?aS ?aL ?_;(case aP=>exact rfl);(case aB=>exact(by repeat(first|(with_reducible first|exact HB.out|apply below_alloc|apply pw_below_drewN|apply below_drew1|refine below_set ?_ GE483.out)|exact HB.out)));(case aF=>exact(fun _ _=>trivial));(case aO=>exact(by(with_reducible repeat(first|apply Kd.R_alloc|apply Kd.R_drewN|apply Kd.R_drew));exact HO_5.out));(case aS=>exact(below_size (by repeat(first|(with_reducible first|exact HB.out|apply below_alloc|apply pw_below_drewN|apply below_drew1|refine below_set ?_ GE483.out)|exact HB.out))));(case aL=>have:=LMc20.out;omega);intro v491 w22 ho hb hg hat;rw [←Ny490.out]at ho;have n0_:=Aside0.mk (blk_grown (g:=gb483) (o:= .cells #[.int .i64 a0_0,.slice A0_1 l0_1.length c0_1,.slice A0_2 l0_2.length c0_2,.slice A0_3 l0_3.length c0_3,.slice A0_4 l0_4.length c0_4,.slice A0_5 l0_5.length c0_5] 28 (0,0)) (by(with_reducible repeat(first|refine blk_drewN ?_ _|refine blk_drew ?_|refine blk_alloc ?_ _));exact BK483.out) hg (Kd.R_ne HO_5.out BK483.out (by decide)));have n1_:=Aside0.mk (hb);have n2_:=Aside0.mk (ho);clear BK483;clear HB;clear HO_5;have BK483:=n0_;have HB:=n1_;have HO492:=n2_;clear n0_ n1_ n2_;clear ho hb hg hat))
         repeat(go_quiet (first|((with_reducible refine gate_builtin (b:= .append) (xs:=#[.tmp 48,.tmp 50]) rfl ?_);at_builtin;refine Kd.R_append (Kd.int .i64) (w0:=w) w.heap.size rfl (.tmp 48) (.tmp 50) 25 3 (.int .i64 0) 8 rfl Try.underlying25 info3 rfl (by decide) (by omega) u5 x5_1 x7_2 [.int .i64 x7_2] (fun _=>True) (fun _=>False) rfl rfl ?aP (fun _ hk=>hk.elim) ?aF ?aO ?aB ?aS ?aL ?_;(case aP=>exact rfl);(case aB=>exact(by repeat(first|(with_reducible first|exact HB.out|apply below_alloc|apply pw_below_drewN|apply below_drew1|refine below_set ?_ GE483.out)|exact HB.out)));(case aF=>exact(fun _ _=>trivial));(case aO=>exact(by(with_reducible repeat(first|apply Kd.R_alloc|apply Kd.R_drewN|apply Kd.R_drew));exact HO_5.out));(case aS=>exact(below_size (by repeat(first|(with_reducible first|exact HB.out|apply below_alloc|apply pw_below_drewN|apply below_drew1|refine below_set ?_ GE483.out)|exact HB.out))));(case aL=>have:=LMc20.out;omega);intro v491 w22 ho hb hg hat;rw [←Ny490.out]at ho;have n0_:=Aside0.mk (blk_grown (g:=gb483) (o:= .cells #[.int .i64 a0_0,.slice A0_1 l0_1.length c0_1,.slice A0_2 l0_2.length c0_2,.slice A0_3 l0_3.length c0_3,.slice A0_4 l0_4.length c0_4,.slice A0_5 l0_5.length c0_5] 28 (0,0)) (by(with_reducible repeat(first|refine blk_drewN ?_ _|refine blk_drew ?_|refine blk_alloc ?_ _));exact BK483.out) hg (Kd.R_ne HO_5.out BK483.out (by decide)));have n1_:=Aside0.mk (hb);have n2_:=Aside0.mk (ho);clear BK483;clear HB;clear HO_5;have BK483:=n0_;have HB:=n1_;have HO492:=n2_;clear n0_ n1_ n2_;clear ho hb hg hat));try go_wp2_with (first|((with_reducible refine gate_builtin (b:= .append) (xs:=#[.tmp 48,.tmp 50]) rfl ?_);at_builtin;refine Kd.R_append (Kd.int .i64) (w0:=w) w.heap.size rfl (.tmp 48) (.tmp 50) 25 3 (.int .i64 0) 8 rfl Try.underlying25 info3 rfl (by decide) (by omega) u5 x5_1 x7_2 [.int .i64 x7_2] (fun _=>True) (fun _=>False) rfl rfl ?aP (fun _ hk=>hk.elim) ?aF ?aO ?aB ?aS ?aL ?_;(case aP=>exact rfl);(case aB=>exact(by repeat(first|(with_reducible first|exact HB.out|apply below_alloc|apply pw_below_drewN|apply below_drew1|refine below_set ?_ GE483.out)|exact HB.out)));(case aF=>exact(fun _ _=>trivial));(case aO=>exact(by(with_reducible repeat(first|apply Kd.R_alloc|apply Kd.R_drewN|apply Kd.R_drew));exact HO_5.out));(case aS=>exact(below_size (by repeat(first|(with_reducible first|exact HB.out|apply below_alloc|apply pw_below_drewN|apply below_drew1|refine below_set ?_ GE483.out)|exact HB.out))));(case aL=>have:=LMc20.out;omega);intro v491 w22 ho hb hg hat;rw [←Ny490.out]at ho;have n0_:=Aside0.mk (blk_grown (g:=gb483) (o:= .cells #[.int .i64 a0_0,.slice A0_1 l0_1.length c0_1,.slice A0_2 l0_2.length c0_2,.slice A0_3 l0_3.length c0_3,.slice A0_4 l0_4.length c0_4,.slice A0_5 l0_5.length c0_5] 28 (0,0)) (by(with_reducible repeat(first|refine blk_drewN ?_ _|refine blk_drew ?_|refine blk_alloc ?_ _));exact BK483.out) hg (Kd.R_ne HO_5.out BK483.out (by decide)));have n1_:=Aside0.mk (hb);have n2_:=Aside0.mk (ho);clear BK483;clear HB;clear HO_5;have BK483:=n0_;have HB:=n1_;have HO492:=n2_;clear n0_ n1_ n2_;clear ho hb hg hat)))
         go_roundg k2
         case measure=>have:=HK1.out;have:=HK2.out;omega
         case rel=>exact⟨(y490),(wrap64 (x6_1+1)),(by first|rfl|(simp;done)|(simp [*];done)),H',⟨by have:=HK1.out;have:=HK2.out;omega⟩,⟨by(with_reducible repeat(first|apply Kd.R_alloc|apply Kd.R_drewN|apply Kd.R_drew));exact HO492.out⟩,⟨by(with_reducible repeat(first|refine blk_drewN ?_ _|refine blk_drew ?_|refine blk_alloc ?_ _));exact BK483.out⟩,⟨by repeat(first|(with_reducible first|exact HB.out|apply below_alloc|apply pw_below_drewN|apply below_drew1|refine below_set ?_ GE483.out)|exact HB.out)⟩⟩
        ·rw [if_neg c20]at H
         exact absurd H (by simp)
   ·rw [if_neg c4]at H
    have c4b0:decide (x6_1 <(l0_3.length:Int))=false:=decide_eq_false c4
    clear c4
    obtain rfl:=Option.some.inj H
    have hcz23_0:wr.cell? ⟨gb483,0,none⟩=some (.int .i64 a0_0):=(blk_cell BK483.out 0).trans rfl
    have hcz23_1:wr.cell? ⟨gb483,1,none⟩=some (.slice A0_1 l0_1.length c0_1):=(blk_cell BK483.out 1).trans rfl
    have hcz23_2:wr.cell? ⟨gb483,2,none⟩=some (.slice A0_2 l0_2.length c0_2):=(blk_cell BK483.out 2).trans rfl
    have hcz23_3:wr.cell? ⟨gb483,3,none⟩=some (.slice A0_3 l0_3.length c0_3):=(blk_cell BK483.out 3).trans rfl
    have hcz23_4:wr.cell? ⟨gb483,4,none⟩=some (.slice A0_4 l0_4.length c0_4):=(blk_cell BK483.out 4).trans rfl
    have hcz23_5:wr.cell? ⟨gb483,5,none⟩=some (.slice A0_5 l0_5.length c0_5):=(blk_cell BK483.out 5).trans rfl
    have hfz23_0:=blk_frozen BK483.out 0
    have hfz23_1:=blk_frozen BK483.out 1
    have hfz23_2:=blk_frozen BK483.out 2
    have hfz23_3:=blk_frozen BK483.out 3
    have hfz23_4:=blk_frozen BK483.out 4
    have hfz23_5:=blk_frozen BK483.out 5
    go_wp2
    repeat(go_quiet (fail);try go_wp2)
    go_ret
    exact⟨_,by first|rfl|(simp [errW_none,errW_some]<;>rfl)|(simp [*,errW_none,errW_some]<;>rfl),by(with_reducible repeat(first|apply Kd.R_alloc|apply Kd.R_drewN|apply Kd.R_drew));exact HO_5.out,by repeat(first|(with_reducible first|exact HB.out|apply below_alloc|apply pw_below_drewN|apply below_drew1|refine below_set ?_ GE483.out)|exact HB.out)⟩
end Go.Proofs.Ytjifalohjlihaaa.Q
end
