import Derived.Test.YtjifalohjlihaaaA4
import Derived.Laws.CopyOwn
section
namespace Go.Proofs.Ytjifalohjlihaaa.Q
set_option linter.unusedVariables false
open Go.BigFrame Go.RowKit Go.Shelf Go.Proofs.YtjifalohjlihaaaW.PrintWords Go.Proofs.YtjifalohjlihaaaW.PrintLast Go.Proofs.YtjifalohjlihaaaW.PrintMore
def SL.byErr (l:SL) (day:Int):Int:=if l.err (decide (0≤day∧day≤l.a0))≠0 then l.err (decide (0≤day∧day≤l.a0))else if l.placeBy day=none then 10 else 0
def SL.byOf (l:SL) (day:Int):List Int:=if l.byErr day=0 then(l.placeBy day).getD []else []
set_option maxRecDepth 100000 in
set_option maxHeartbeats 6400000 in
theorem By.calls (x:SA) (l:SL) (day:Int) (w:World) (hr:Rd w x l):
  Calls Try.prog 64 #[.agg (x.cells l),.int .i64 day] w fun e w'=>∃v,e= .returned (.tuple #[v,.int .i64 (l.byErr day)])∧Kd.R (Kd.int .i64) 3 w' w.heap.size (fun _=>True) v (l.byOf day)∧Below w.heap.size w w':=by
 obtain⟨A1,c1,A2,c2,A3,c3,A4,c4,A5,c5⟩:=x
 have HB:=Aside0.mk (Below.refl w.heap.size w)
 have HR:=Aside0.mk hr
 obtain⟨b,hbv⟩:∃b,b=(decide (0≤day∧day≤l.a0)):=⟨_,rfl⟩
 obtain⟨er,her⟩:∃er,er=l.err b:=⟨_,rfl⟩
 obtain⟨dv,hdv⟩:∃dv,dv=l.byOf day:=⟨_,rfl⟩
 obtain⟨de,hde⟩:∃de,de=l.byErr day:=⟨_,rfl⟩
 rw [←hdv,←hde]
 have HDE:=Aside0.mk (show de=if er≠0 then er else if l.placeBy day=none then 10 else 0 by rw [hde,her,hbv];rfl)
 have HDV:=Aside0.mk (show dv=if de=0 then(l.placeBy day).getD []else []by rw [hdv,hde];rfl)
 have HBV:=Aside0.mk her
 have HBB:=Aside0.mk hbv
 clear hr her hbv hdv hde
 go_enter Try.func64,Try.ntmps64
 by_cases hz:er=0
 ·have hzb:(er !=0)=false:=by rw [hz];rfl
  have HZ:=Aside0.mk hz
  obtain⟨hf0,_,hne0⟩:=err_zero (HBV.out.symm.trans hz)
  have HF:=Aside0.mk hf0
  have HNE:=Aside0.mk hne0
  clear hz hf0 hne0
  obtain⟨r,hr⟩:∃r,r=l.placeBy day:=⟨_,rfl⟩
  have HRE:=Aside0.mk hr
  clear hr
  cases r with
  |some q=>
   have hb1:(some q).isSome=true:=rfl
   have HE2:=Aside0.mk (show de=0 by rw [HDE.out,if_neg (by rw [HZ.out];simp),←HRE.out];simp)
   have HV2:=Aside0.mk (show dv=q by rw [HDV.out,if_pos HE2.out,←HRE.out];rfl)
   go_wp2_with (first|((with_reducible refine gate_dst (N:=2) rfl ?_);refine box_event ?hg (N:=2) ?hd (cs:=#[.int .i64 l.a0,.slice A1 l.l1.length c1,.slice A2 l.l2.length c2,.slice A3 l.l3.length c3,.slice A4 l.l4.length c4,.slice A5 l.l5.length c5]) (t:=39) ?hr ?_;(case hd=>rfl);(case hg=>rfl);(case hr=>first|(go_simp;done)|(go_simp;rfl));intro g2 hg_ w2 hbx_ hb_;have BK2:=Aside0.mk hbx_;have g2ge:w.heap.size≤g2:=(by have:=below_size HB.out;omega);have g2GE:=Aside0.mk g2ge;clear g2ge;have HBn:=Aside0.mk (below_step HB.out hb_);clear HB hg_ hb_ hbx_;have HB:=HBn;clear HBn)|((with_reducible refine gate_dst (N:=3) rfl ?_);refine box_event ?hg (N:=3) ?hd (cs:=#[.int .i64 day]) (t:=3) ?hr ?_;(case hd=>rfl);(case hg=>rfl);(case hr=>first|(go_simp;done)|(go_simp;rfl));intro g3 hg_ w3 hbx_ hb_;have BK3:=Aside0.mk hbx_;have g3ge:w.heap.size≤g3:=(by have:=below_size HB.out;omega);have g3GE:=Aside0.mk g3ge;clear g3ge;have HBn:=Aside0.mk (below_step HB.out hb_);have z_:=Aside0.mk (blk_below BK2.out hb_);clear BK2;have BK2:=z_;clear z_;clear HB hg_ hb_ hbx_;have HB:=HBn;clear HBn;have f0:w3.cell? ⟨g2,0,none⟩=some (.int .i64 l.a0):=(blk_cell BK2.out 0).trans rfl;have f1:w3.cell? ⟨g2,1,none⟩=some (.slice A1 l.l1.length c1):=(blk_cell BK2.out 1).trans rfl;have f2:w3.cell? ⟨g2,2,none⟩=some (.slice A2 l.l2.length c2):=(blk_cell BK2.out 2).trans rfl;have f3:w3.cell? ⟨g2,3,none⟩=some (.slice A3 l.l3.length c3):=(blk_cell BK2.out 3).trans rfl;have f4:w3.cell? ⟨g2,4,none⟩=some (.slice A4 l.l4.length c4):=(blk_cell BK2.out 4).trans rfl;have f5:w3.cell? ⟨g2,5,none⟩=some (.slice A5 l.l5.length c5):=(blk_cell BK2.out 5).trans rfl)|(go_at_call 72;go_must (refine(L_asked.calls ⟨A1,c1,A2,c2,A3,c3,A4,c4,A5,c5⟩ l 112 #[.pointer (some ⟨g3,0,none⟩),.pointer (some ⟨g2,0,none⟩)] _ _ (HR.out.below HB.out) (fun _ W hb=>by1_call ⟨A1,c1,A2,c2,A3,c3,A4,c4,A5,c5⟩ l day g3 g2 W (blk_below BK3.out hb) (blk_below BK2.out hb)) (fun w=>enters_ Try.func112 (by kernel_rfl) rfl _ w)).mono ?_;clear f0 f1 f2 f3 f4 f5;rintro e wA hA;have hbA:=hA.1;replace hA:=job_of (HR.out.below HB.out) hA;rw [←HBB.out,←HBV.out]at hA;replace BK2:=Aside0.mk (blk_below BK2.out hbA);replace BK3:=Aside0.mk (blk_below BK3.out hbA);rcases hA with⟨hz0,rfl,_⟩|⟨hz0,gW,gM,A7,c7,rfl,hJ,hM⟩;exact absurd HZ.out hz0;have J:=Aside0.mk hJ;have HM:=Aside0.mk hM;clear hbA hz0 hJ hM;have HC:=Aside0.mk (place_calls _ l gW gM A7 c7 day w3 wA J.out HM.out HF.out HNE.out);rw [←HRE.out,hb1]at HC;have fL:wA.cell? ⟨g3,0,none⟩=some (.int .i64 day):=(blk_cell BK3.out 0).trans rfl))|(go_at_call 110;go_must (refine HC.out.mono ?_;rintro e wp ⟨v,rfl,hj,hm,hbp,hq⟩)))
   go_ret2
   exact⟨v,by rw [HE2.out];rfl,by rw [HV2.out];exact Kd.R_lower (hq q rfl) HB.out.size,below_step HB.out hj.bel⟩
  |none=>
   have hb1:(none:Option (List Int)).isSome=false:=rfl
   have HE2:=Aside0.mk (show de=10 by rw [HDE.out,if_neg (by rw [HZ.out];simp),←HRE.out,if_pos rfl])
   have HV2:=Aside0.mk (show dv= []by rw [HDV.out,HE2.out];rfl)
   go_wp2_with (first|((with_reducible refine gate_dst (N:=2) rfl ?_);refine box_event ?hg (N:=2) ?hd (cs:=#[.int .i64 l.a0,.slice A1 l.l1.length c1,.slice A2 l.l2.length c2,.slice A3 l.l3.length c3,.slice A4 l.l4.length c4,.slice A5 l.l5.length c5]) (t:=39) ?hr ?_;(case hd=>rfl);(case hg=>rfl);(case hr=>first|(go_simp;done)|(go_simp;rfl));intro g2 hg_ w2 hbx_ hb_;have BK2:=Aside0.mk hbx_;have g2ge:w.heap.size≤g2:=(by have:=below_size HB.out;omega);have g2GE:=Aside0.mk g2ge;clear g2ge;have HBn:=Aside0.mk (below_step HB.out hb_);clear HB hg_ hb_ hbx_;have HB:=HBn;clear HBn)|((with_reducible refine gate_dst (N:=3) rfl ?_);refine box_event ?hg (N:=3) ?hd (cs:=#[.int .i64 day]) (t:=3) ?hr ?_;(case hd=>rfl);(case hg=>rfl);(case hr=>first|(go_simp;done)|(go_simp;rfl));intro g3 hg_ w3 hbx_ hb_;have BK3:=Aside0.mk hbx_;have g3ge:w.heap.size≤g3:=(by have:=below_size HB.out;omega);have g3GE:=Aside0.mk g3ge;clear g3ge;have HBn:=Aside0.mk (below_step HB.out hb_);have z_:=Aside0.mk (blk_below BK2.out hb_);clear BK2;have BK2:=z_;clear z_;clear HB hg_ hb_ hbx_;have HB:=HBn;clear HBn;have f0:w3.cell? ⟨g2,0,none⟩=some (.int .i64 l.a0):=(blk_cell BK2.out 0).trans rfl;have f1:w3.cell? ⟨g2,1,none⟩=some (.slice A1 l.l1.length c1):=(blk_cell BK2.out 1).trans rfl;have f2:w3.cell? ⟨g2,2,none⟩=some (.slice A2 l.l2.length c2):=(blk_cell BK2.out 2).trans rfl;have f3:w3.cell? ⟨g2,3,none⟩=some (.slice A3 l.l3.length c3):=(blk_cell BK2.out 3).trans rfl;have f4:w3.cell? ⟨g2,4,none⟩=some (.slice A4 l.l4.length c4):=(blk_cell BK2.out 4).trans rfl;have f5:w3.cell? ⟨g2,5,none⟩=some (.slice A5 l.l5.length c5):=(blk_cell BK2.out 5).trans rfl)|(go_at_call 72;go_must (refine(L_asked.calls ⟨A1,c1,A2,c2,A3,c3,A4,c4,A5,c5⟩ l 112 #[.pointer (some ⟨g3,0,none⟩),.pointer (some ⟨g2,0,none⟩)] _ _ (HR.out.below HB.out) (fun _ W hb=>by1_call ⟨A1,c1,A2,c2,A3,c3,A4,c4,A5,c5⟩ l day g3 g2 W (blk_below BK3.out hb) (blk_below BK2.out hb)) (fun w=>enters_ Try.func112 (by kernel_rfl) rfl _ w)).mono ?_;clear f0 f1 f2 f3 f4 f5;rintro e wA hA;have hbA:=hA.1;replace hA:=job_of (HR.out.below HB.out) hA;rw [←HBB.out,←HBV.out]at hA;replace BK2:=Aside0.mk (blk_below BK2.out hbA);replace BK3:=Aside0.mk (blk_below BK3.out hbA);rcases hA with⟨hz0,rfl,_⟩|⟨hz0,gW,gM,A7,c7,rfl,hJ,hM⟩;exact absurd HZ.out hz0;have J:=Aside0.mk hJ;have HM:=Aside0.mk hM;clear hbA hz0 hJ hM;have HC:=Aside0.mk (place_calls _ l gW gM A7 c7 day w3 wA J.out HM.out HF.out HNE.out);rw [←HRE.out,hb1]at HC;have fL:wA.cell? ⟨g3,0,none⟩=some (.int .i64 day):=(blk_cell BK3.out 0).trans rfl))|(go_at_call 110;go_must (refine HC.out.mono ?_;rintro e wp ⟨v,rfl,hj,hm,hbp,hq⟩)))
   go_ret2
   exact⟨_,by rw [HE2.out];rfl,by rw [HV2.out];exact Kd.R_nil _ _ _ _ _,below_step HB.out hj.bel⟩
 ·have hzb:(er !=0)=true:=by simpa using hz
  have HZ:=Aside0.mk hz
  have HE2:=Aside0.mk (show de=er by rw [HDE.out,if_pos hz])
  have HV2:=Aside0.mk (show dv= []by rw [HDV.out,HE2.out,if_neg hz])
  clear hz
  go_wp2_with (first|((with_reducible refine gate_dst (N:=2) rfl ?_);refine box_event ?hg (N:=2) ?hd (cs:=#[.int .i64 l.a0,.slice A1 l.l1.length c1,.slice A2 l.l2.length c2,.slice A3 l.l3.length c3,.slice A4 l.l4.length c4,.slice A5 l.l5.length c5]) (t:=39) ?hr ?_;(case hd=>rfl);(case hg=>rfl);(case hr=>first|(go_simp;done)|(go_simp;rfl));intro g2 hg_ w2 hbx_ hb_;have BK2:=Aside0.mk hbx_;have g2ge:w.heap.size≤g2:=(by have:=below_size HB.out;omega);have g2GE:=Aside0.mk g2ge;clear g2ge;have HBn:=Aside0.mk (below_step HB.out hb_);clear HB hg_ hb_ hbx_;have HB:=HBn;clear HBn)|((with_reducible refine gate_dst (N:=3) rfl ?_);refine box_event ?hg (N:=3) ?hd (cs:=#[.int .i64 day]) (t:=3) ?hr ?_;(case hd=>rfl);(case hg=>rfl);(case hr=>first|(go_simp;done)|(go_simp;rfl));intro g3 hg_ w3 hbx_ hb_;have BK3:=Aside0.mk hbx_;have g3ge:w.heap.size≤g3:=(by have:=below_size HB.out;omega);have g3GE:=Aside0.mk g3ge;clear g3ge;have HBn:=Aside0.mk (below_step HB.out hb_);have z_:=Aside0.mk (blk_below BK2.out hb_);clear BK2;have BK2:=z_;clear z_;clear HB hg_ hb_ hbx_;have HB:=HBn;clear HBn;have f0:w3.cell? ⟨g2,0,none⟩=some (.int .i64 l.a0):=(blk_cell BK2.out 0).trans rfl;have f1:w3.cell? ⟨g2,1,none⟩=some (.slice A1 l.l1.length c1):=(blk_cell BK2.out 1).trans rfl;have f2:w3.cell? ⟨g2,2,none⟩=some (.slice A2 l.l2.length c2):=(blk_cell BK2.out 2).trans rfl;have f3:w3.cell? ⟨g2,3,none⟩=some (.slice A3 l.l3.length c3):=(blk_cell BK2.out 3).trans rfl;have f4:w3.cell? ⟨g2,4,none⟩=some (.slice A4 l.l4.length c4):=(blk_cell BK2.out 4).trans rfl;have f5:w3.cell? ⟨g2,5,none⟩=some (.slice A5 l.l5.length c5):=(blk_cell BK2.out 5).trans rfl)|(go_at_call 72;go_must (refine(L_asked.calls ⟨A1,c1,A2,c2,A3,c3,A4,c4,A5,c5⟩ l 112 #[.pointer (some ⟨g3,0,none⟩),.pointer (some ⟨g2,0,none⟩)] _ _ (HR.out.below HB.out) (fun _ W hb=>by1_call ⟨A1,c1,A2,c2,A3,c3,A4,c4,A5,c5⟩ l day g3 g2 W (blk_below BK3.out hb) (blk_below BK2.out hb)) (fun w=>enters_ Try.func112 (by kernel_rfl) rfl _ w)).mono ?_;clear f0 f1 f2 f3 f4 f5;rintro e wA hA;have hbA:=hA.1;replace hA:=job_of (HR.out.below HB.out) hA;rw [←HBB.out,←HBV.out]at hA;replace BK2:=Aside0.mk (blk_below BK2.out hbA);replace BK3:=Aside0.mk (blk_below BK3.out hbA);rcases hA with⟨hz0,rfl,_⟩|⟨hz0,gW,gM,A7,c7,rfl,hJ,hM⟩;rotate_left;exact absurd hz0 HZ.out;replace HB:=Aside0.mk (below_step HB.out hbA);clear hbA hz0)))
  go_ret2
  exact⟨_,by rw [HE2.out];rfl,by rw [HV2.out];exact Kd.R_nil _ _ _ _ _,HB.out⟩
end Go.Proofs.Ytjifalohjlihaaa.Q
end
section
namespace Go.Proofs.Ytjifalohjlihaaa.Q
set_option linter.unusedVariables false
open Go.BigFrame Go.RowKit Go.Shelf Go.Proofs.YtjifalohjlihaaaW.PrintWords Go.Proofs.YtjifalohjlihaaaW.PrintLast Go.Proofs.YtjifalohjlihaaaW.PrintMore
def leaveLoop (F:List Int→Int→Option (List Int)) (out:List Int):Nat→Int→Option (List Int)
 |0,_=>none
 |k+1,i=>(F (out++ [i]) (i+1)).elim (leaveLoop F out k (i+1)) some
def SL.leaveK (l:SL):Nat→List Int→Int→Option (List Int)
 |0,out,_=>if l.possible out then some out else none
 |m+1,out,i=>leaveLoop (l.leaveK m) out (l.l5.length-m-i).toNat i
structure LvS (w0 X:World) (x:SA) (l:SL) (gl gf gp:Nat):Prop where
 bel:Below w0.heap.size w0 X
 rd0:Rd w0 x l
 bl:X.heap[gl]? =some (.cells (x.cells l) 39 (0,0))
 bp:X.heap[gp]? =some (.cells #[.func (.func 87) #[] #[.pointer (some ⟨gf,0,none⟩),.pointer (some ⟨gl,0,none⟩),.pointer (some ⟨gp,0,none⟩)]] 141 (0,0))
 bf:∃fv:Option Addr×Nat×Nat,X.heap[gf]? =some (.cells #[.slice fv.1 fv.2.1 fv.2.2] 25 (0,0))
 gfge:w0.heap.size≤gf
theorem LvS.below {w0 X Y:World} {x:SA} {l:SL} {gl gf gp:Nat} (h:LvS w0 X x l gl gf gp) (hb:Below X.heap.size X Y):LvS w0 Y x l gl gf gp:=
 ⟨below_step h.bel hb,h.rd0,blk_below h.bl hb,blk_below h.bp hb,by obtain⟨fv,hf⟩:=h.bf;exact⟨fv,blk_below hf hb⟩,h.gfge⟩
theorem LvS.turn {w0 X Y:World} {x:SA} {l:SL} {gl gf gp:Nat} (h:LvS w0 X x l gl gf gp) (ht:Turn (fun k=>k=gf) X Y) (hf:∃fv:Option Addr×Nat×Nat,Y.heap[gf]? =some (.cells #[.slice fv.1 fv.2.1 fv.2.2] 25 (0,0))):LvS w0 Y x l gl gf gp:=by
 obtain⟨fv,hbf⟩:=h.bf
 exact⟨Turn.below h.bel ht (fun k hk=>by rw [hk];exact h.gfge) h.bel.size,h.rd0,ht.blk h.bl (fun e=>blk_ne h.bl hbf (by decide) e),ht.blk h.bp (fun e=>blk_ne h.bp hbf (by decide) e),hf,h.gfge⟩
def LvOut (w0:World) (x:SA) (l:SL) (gl gf gp:Nat) (r:Option (List Int)) (X:World) (e:Ending) (Y:World):Prop:=
 e= .returned (.bool r.isSome)∧LvS w0 Y x l gl gf gp∧Turn (fun k=>k=gf) X Y∧
  ∀q,r=some q→∃fv,Y.heap[gf]? =some (.cells #[fv] 25 (0,0))∧Kd.R (Kd.int .i64) 3 Y w0.heap.size (fun k=>k≠gf) fv q
attribute [local go_sem] run_store_func
set_option maxRecDepth 100000 in
set_option maxHeartbeats 6400000 in
theorem leave_calls (x:SA) (l:SL) (gl gf gp:Nat) (w0:World) (hf:l.fault=0):
  ∀(m:Nat) (p:List Int) (i:Int) (pv:Value) (w:World),p.length+m≤l.l5.length→0≤i→i≤l.l5.length→LvS w0 w x l gl gf gp→Kd.R (Kd.int .i64) 3 w w0.heap.size (fun k=>k≠gf) pv p→
   Calls Try.prog 87 #[pv,.int .i64 i,.int .i64 (m:Int),.pointer (some ⟨gf,0,none⟩),.pointer (some ⟨gl,0,none⟩),.pointer (some ⟨gp,0,none⟩)] w (LvOut w0 x l gl gf gp (l.leaveK m p i) w):=by
 obtain⟨A1,c1,A2,c2,A3,c3,A4,c4,A5,c5⟩:=x
 intro m
 induction m with
 |zero=>
  intro p i pv w hk i0 i1 hS hR
  have HS:=Aside0.mk hS
  have HR:=Aside0.mk hR
  have HF:=Aside0.mk hf
  have hw5:=(valid_of hf).weight5
  obtain⟨Ap,cp,hpv,hlp,hC⟩:=Kd.R_reads hR
  obtain⟨fv0,hfv⟩:=hS.bf
  have BF:=Aside0.mk hfv
  obtain⟨b,hb⟩:∃b,b=l.possible p:=⟨_,rfl⟩
  have HBB:=Aside0.mk hb
  obtain⟨r,hr⟩:∃r,r=l.leaveK 0 p i:=⟨_,rfl⟩
  have HRE:=Aside0.mk (show r=if b then some p else none by rw [hr,hb];rfl)
  rw [←hr]
  subst hpv
  clear hS hR hlp hC hfv hb hr
  have ff:w.cell? ⟨gf,0,none⟩=some (.slice fv0.1 fv0.2.1 fv0.2.2):=(blk_cell BF.out 0).trans rfl
  have fz:=blk_frozen BF.out 0
  go_enter Try.func87,Try.ntmps87
  go_upto_region 3 with(fail)
  obtain⟨w1,hw1⟩:∃w1,w1=w.setCell ⟨gf,0,none⟩ (.slice Ap p.length cp):=⟨_,rfl⟩
  have ht:Turn (fun k=>k=gf) w w1:=by rw [hw1];exact Turn.set (Own:=fun k=>k=gf) (a:=⟨gf,0,none⟩) rfl _
  have hb1:w1.heap[gf]? =some (.cells #[.slice Ap p.length cp] 25 (0,0)):=by rw [hw1];exact blk_set BF.out 0 _
  have HT:=Aside0.mk ht
  have HB1:=Aside0.mk hb1
  have HS1:=Aside0.mk (HS.out.turn ht ⟨(Ap,p.length,cp),hb1⟩)
  have HR1:=Aside0.mk (show Kd.R (Kd.int .i64) 3 w1 w0.heap.size (fun k=>k≠gf) (.slice Ap p.length cp) p by rw [hw1];exact Kd.R_far HR.out (fun k hk=>hk) _)
  rw [←hw1]
  clear hw1 ht hb1 ff fz HS HR BF
  have f0:w1.cell? ⟨gl,0,none⟩=some (.int .i64 l.a0):=(blk_cell HS1.out.bl 0).trans rfl;have f1:w1.cell? ⟨gl,1,none⟩=some (.slice A1 l.l1.length c1):=(blk_cell HS1.out.bl 1).trans rfl;have f2:w1.cell? ⟨gl,2,none⟩=some (.slice A2 l.l2.length c2):=(blk_cell HS1.out.bl 2).trans rfl;have f3:w1.cell? ⟨gl,3,none⟩=some (.slice A3 l.l3.length c3):=(blk_cell HS1.out.bl 3).trans rfl;have f4:w1.cell? ⟨gl,4,none⟩=some (.slice A4 l.l4.length c4):=(blk_cell HS1.out.bl 4).trans rfl;have f5:w1.cell? ⟨gl,5,none⟩=some (.slice A5 l.l5.length c5):=(blk_cell HS1.out.bl 5).trans rfl
  go_wp2_with (go_at_call 86;go_must (refine(L_possible.calls ⟨A1,c1,A2,c2,A3,c3,A4,c4,A5,c5⟩ l Ap cp p w1 (HS1.out.rd0.below HS1.out.bel) (valid_of HF.out) (Kd.R_reads' HR1.out).2.2 (Kd.R_reads' HR1.out).2.1 (by omega)).mono ?_;rw [←HBB.out];clear f0 f1 f2 f3 f4 f5;rintro e wp ⟨rfl,hb⟩))
  go_ret
  refine⟨by rw [HRE.out];cases b<;>rfl,HS1.out.below hb,HT.out.trans (Turn.of_below hb),fun q hq=>⟨_,blk_below HB1.out hb,?_⟩⟩
  rw [HRE.out]at hq
  have hpq:p=q:=by
   cases b with
   |false=>cases hq
   |true=>exact Option.some.inj hq
  rw [←hpq]
  exact Kd.R_below HR1.out hb
 |succ m ih=>
  intro p i pv w hk i0 i1 hS hR
  have HS:=Aside0.mk hS
  have HR:=Aside0.mk hR
  have HF:=Aside0.mk hf
  have IH:=Aside0.mk ih
  have hw5:=(valid_of hf).weight5
  obtain⟨Ap,cp,hpv,hlp,hC⟩:=Kd.R_reads hR
  have HK:=Aside0.mk hk
  have hml:(m:Int)+1≤l.l5.length:=by omega
  subst hpv
  clear hS hR hlp hC hk ih
  obtain⟨r,hr⟩:∃r,r=l.leaveK (m+1) p i:=⟨_,rfl⟩
  have HRE:=Aside0.mk (show leaveLoop (l.leaveK m) p (l.l5.length-m-i).toNat i=r by rw [hr];rfl)
  rw [←hr]
  have HT:=Aside0.mk (Turn.refl (fun k=>k=gf) w)
  clear hr
  have hmc:((m+1:Nat):Int)=(m:Int)+1:=by omega
  rw [hmc]
  have hmz:(((m:Int)+1)==0)=false:=by rw [beq_eq_false_iff_ne];omega
  have hmw:IntKind.i64.wrap ((m:Int)+1-1)=(m:Int):=by rw [Int.add_sub_cancel];exact IntWalk.i64_in _ (by omega)
  have hmw2:IntKind.i64.wrap (m:Int)=(m:Int):=IntWalk.i64_in _ (by omega)
  have hp5:p.length≤5:=by have:=HK.out;omega
  have hlw:IntKind.i64.wrap ((l.l5.length:Int)-((m:Int)+1))=(l.l5.length:Int)-((m:Int)+1):=IntWalk.i64_in _ (by omega)
  go_enter Try.func87,Try.ntmps87
  go_wp2
  go_loopw [10] (fun v10 wr=>∃i:Int,v10= .int .i64 i∧0≤i∧i≤l.l5.length∧Aside0 (leaveLoop (l.leaveK m) p (l.l5.length-m-i).toNat i=r)∧Aside0 (LvS w0 wr ⟨A1,c1,A2,c2,A3,c3,A4,c4,A5,c5⟩ l gl gf gp)∧Aside0 (Kd.R (Kd.int .i64) 3 wr w0.heap.size (fun k=>k≠gf) (.slice Ap p.length cp) p)∧Aside0 (Turn (fun k=>k=gf) w wr)) (fun v10 _=>(l.l5.length-intOf v10).toNat)
  case atStart=>exact⟨i,rfl,i0,i1,HRE,HS,HR,HT⟩
  case round=>
   clear HS HR HT HRE i0 i1
   obtain⟨i,rfl,i0,i1,HE,HS,HR,HT⟩:=hrel
   have f5:wr.cell? ⟨gl,5,none⟩=some (.slice A5 l.l5.length c5):=(blk_cell HS.out.bl 5).trans rfl
   by_cases hlt:i≤(l.l5.length:Int)-((m:Int)+1)
   ·obtain⟨r2,hr2⟩:∃r2,r2=l.leaveK m (p++ [i]) (i+1):=⟨_,rfl⟩
    have HR2:=Aside0.mk hr2
    have HST:=Aside0.mk (show r=r2.elim (leaveLoop (l.leaveK m) p (l.l5.length-m-(i+1)).toNat (i+1)) some by
     rw [←HE.out,hr2]
     have hk:(l.l5.length-m-i).toNat=(l.l5.length-m-(i+1)).toNat+1:=by omega
     rw [hk];rfl)
    have hwi:IntKind.i64.wrap (i+1)=i+1:=IntWalk.i64_in _ (by omega)
    clear hr2 HE
    go_wp2_with fail
    clear f5
    have hbd_:=below_drew1 (Below.refl wr.heap.size wr)
    replace HS:=Aside0.mk (HS.out.below hbd_)
    replace HR:=Aside0.mk (Kd.R_below HR.out hbd_)
    replace HT:=Aside0.mk (HT.out.trans (Turn.of_below hbd_))
    clear hbd_
    cases r2 with
    |none=>
     refine start_ (n:=11) (S:=fun w'=>w'.cell? ⟨gp,0,none⟩=some (.func (.func 87) #[] #[.pointer (some ⟨gf,0,none⟩),.pointer (some ⟨gl,0,none⟩),.pointer (some ⟨gp,0,none⟩)])) (ds:= []) #[false,false,false,false,false,false,false,false,false,false,false] (by kernel_rfl) rfl rfl ((blk_cell HS.out.bp 0).trans rfl) (fun hHeld=> ?_)
     generalize wr.drew=wl at HS HR HT hHeld ⊢
     refine take_ (i:=0) (N:=some 27) (v:= ?_) (a':= ?_) #[true,false,false,false,false,false,false,false,false,false,false] rfl rfl (by kernel_rfl) (fun _ _ _ h=>h) (Or.inl ⟨by rfl,?_⟩) hHeld ?_ ?_
     rotate_left
     ·intro w' s0
      go_simp
      with_reducible rfl
     rotate_left
     ·simp only [Act.put,List.setIfInBounds_toArray,List.set_cons_zero,List.set_cons_succ];rfl
     refine pure_ (i:=1) (N:=some 28) (v:= ?_) (a':= ?_) #[true,true,false,false,false,false,false,false,false,false,false] rfl rfl (by kernel_rfl) (fun _ _ _ h=>h) (Or.inl ⟨by rfl,?_⟩) ?_ ?_
     rotate_left
     ·intro w'
      go_simp
      with_reducible rfl
     rotate_left
     ·simp only [Act.put,List.setIfInBounds_toArray,List.set_cons_zero,List.set_cons_succ];rfl
     refine pure_ (i:=3) (N:=some 30) (v:= ?_) (a':= ?_) #[true,true,false,true,false,false,false,false,false,false,false] rfl rfl (by kernel_rfl) (fun _ _ _ h=>h) (Or.inl ⟨by rfl,?_⟩) ?_ ?_
     rotate_left
     ·intro w'
      go_simp
      with_reducible rfl
     rotate_left
     ·simp only [Act.put,List.setIfInBounds_toArray,List.set_cons_zero,List.set_cons_succ];rfl
     refine pure_ (i:=6) (N:=some 33) (v:= ?_) (a':= ?_) #[true,true,false,true,false,false,true,false,false,false,false] rfl rfl (by kernel_rfl) (fun _ _ _ h=>h) (Or.inl ⟨by rfl,?_⟩) ?_ ?_
     rotate_left
     ·intro w'
      go_simp
      with_reducible rfl
     rotate_left
     ·simp only [Act.put,List.setIfInBounds_toArray,List.set_cons_zero,List.set_cons_succ];rfl
     refine pure_ (i:=7) (N:=some 34) (v:= ?_) (a':= ?_) #[true,true,false,true,false,false,true,true,false,false,false] rfl rfl (by kernel_rfl) (fun _ _ _ h=>h) (Or.inl ⟨by rfl,?_⟩) ?_ ?_
     rotate_left
     ·intro w'
      go_simp
      with_reducible rfl
     rotate_left
     ·simp only [Act.put,List.setIfInBounds_toArray,List.set_cons_zero,List.set_cons_succ];rfl
     refine pure_ (i:=8) (N:=some 35) (v:= ?_) (a':= ?_) #[true,true,false,true,false,false,true,true,true,false,false] rfl rfl (by kernel_rfl) (fun _ _ _ h=>h) (Or.inl ⟨by rfl,?_⟩) ?_ ?_
     rotate_left
     ·intro w'
      go_simp
      with_reducible rfl
     rotate_left
     ·simp only [Act.put,List.setIfInBounds_toArray,List.set_cons_zero,List.set_cons_succ];rfl
     refine pure_ (i:=9) (N:=some 36) (v:= ?_) (a':= ?_) #[true,true,false,true,false,false,true,true,true,true,false] rfl rfl (by kernel_rfl) (fun _ _ _ h=>h) (Or.inl ⟨by rfl,?_⟩) ?_ ?_
     rotate_left
     ·intro w'
      go_simp
      with_reducible rfl
     rotate_left
     ·simp only [Act.put,List.setIfInBounds_toArray,List.set_cons_zero,List.set_cons_succ];rfl
     refine join_ (σ:=Value×Nat) 2 #[true,true,true,true,true,false,true,true,true,true,false] (fun s_=> [(29,s_.1),(31,.slice (some ⟨s_.2,0,none⟩) 1 1)]) (fun s_ w'=>(w'.cell? ⟨gp,0,none⟩=some (.func (.func 87) #[] #[.pointer (some ⟨gf,0,none⟩),.pointer (some ⟨gl,0,none⟩),.pointer (some ⟨gp,0,none⟩)]))∧Kd.R (Kd.int .i64) 3 w' wl.heap.size (fun _=>True) s_.1 p∧w'.heap[s_.2]? =some (.cells #[.int .i64 i] 3 (0,0))∧Below wl.heap.size wl w') ?_ ?_
     rotate_left
     ·intro hCont
      refine two_ (i:=2) (j:=4) (Ni:=some 29) (Nj:=some 31) #[true,true,true,true,false,false,true,true,true,true,false] #[true,true,false,true,true,false,true,true,true,true,false] rfl rfl rfl rfl (by kernel_rfl) (by decide) (by decide) (fun K hK=> ?_) (fun K hK=> ?_)
      ·refine goes_ Try.func88 (by kernel_rfl) rfl #[.slice Ap p.length cp] (by rfl) rfl rfl (by(try simp only [List.map_toArray,List.map_cons,List.map_nil]);rfl) ?_
       refine(slices_Clone_int.calls Ap cp p p wl (Kd.R_reads' HR.out).2.2 (Kd.R_reads' HR.out).2.1 (by unfold slices_Clone_int.f;rw [if_pos (by omega)])).mono ?_
       rintro e wc ⟨v0,rfl,ho,hbc⟩
       refine⟨_,rfl,?_⟩
       have HO:=Aside0.mk ho
       have HBC:=Aside0.mk hbc
       have HSc:=Aside0.mk (HS.out.below hbc)
       clear ho hbc
       refine hK.out _ _ ((blk_cell HSc.out.bp 0).trans rfl) (fun hHeld=> ?_)
       clear hK K
       refine norm_ (a':= ?_) ?_ ?_
       rotate_left
       ·show Act.put _ (some 29) _=_;simp only [Act.put,List.setIfInBounds_toArray,List.set_cons_zero,List.set_cons_succ];rfl
       refine one_ (i:=4) (N:=some 31) #[true,true,true,true,true,false,true,true,true,true,false] rfl rfl (by kernel_rfl) (by decide) (fun K hK=> ?_)
       refine value_ (w1:= ?_) (v:= ?_) (by rfl) rfl ?_ ?_
       rotate_left 2
       ·go_simp
        constructor
        ·rfl
        ·rfl
       refine hK.out _ _ ((blk_cell (blk_alloc HSc.out.bp _) 0).trans rfl) (fun hHeld=> ?_)
       clear hK K
       exact norm_ (by simp only [putAll,Act.put,List.setIfInBounds_toArray,List.set_cons_zero,List.set_cons_succ]) (hCont (v0,wc.heap.size) _ ⟨hHeld,Kd.R_below HO.out (below_alloc (Below.refl _ _) _),blk_new _ _,below_alloc HBC.out _⟩)
      ·refine value_ (w1:= ?_) (v:= ?_) (by rfl) rfl ?_ ?_
       rotate_left 2
       ·go_simp
        constructor
        ·rfl
        ·rfl
       have hba:=below_alloc (Below.refl wl.heap.size wl) (Obj.cells #[.int .i64 i] 3 (0,0))
       have HSa:=Aside0.mk (HS.out.below hba)
       have HRa:=Aside0.mk (Kd.R_below HR.out hba)
       refine hK.out _ _ ((blk_cell HSa.out.bp 0).trans rfl) (fun hHeld=> ?_)
       clear hK K
       refine norm_ (a':= ?_) ?_ ?_
       rotate_left
       ·show Act.put _ (some 31) _=_;simp only [Act.put,List.setIfInBounds_toArray,List.set_cons_zero,List.set_cons_succ];rfl
       refine one_ (i:=2) (N:=some 29) #[true,true,true,true,true,false,true,true,true,true,false] rfl rfl (by kernel_rfl) (by decide) (fun K hK=> ?_)
       refine goes_ Try.func88 (by kernel_rfl) rfl #[.slice Ap p.length cp] (by rfl) rfl rfl (by(try simp only [List.map_toArray,List.map_cons,List.map_nil]);rfl) ?_
       refine(slices_Clone_int.calls Ap cp p p _ (Kd.R_reads' HRa.out).2.2 (Kd.R_reads' HRa.out).2.1 (by unfold slices_Clone_int.f;rw [if_pos (by omega)])).mono ?_
       rintro e wc ⟨v0,rfl,ho,hbc⟩
       refine⟨_,rfl,?_⟩
       have HSc:=Aside0.mk (HSa.out.below hbc)
       refine hK.out _ _ ((blk_cell HSc.out.bp 0).trans rfl) (fun hHeld=> ?_)
       clear hK K
       exact norm_ (by simp only [putAll,Act.put,List.setIfInBounds_toArray,List.set_cons_zero,List.set_cons_succ]) (hCont (v0,wl.heap.size) _ ⟨hHeld,Kd.R_lower ho hba.size,blk_below (blk_new _ _) hbc,below_step hba hbc⟩)
     rintro⟨v0,gl9⟩ wj ⟨hHeld,ho,hgl,hbj⟩
     refine norm_ (a':= ?_) ?_ ?_
     rotate_left
     ·simp only [putAll,Act.put,List.setIfInBounds_toArray,List.set_cons_zero,List.set_cons_succ]
      rfl
     refine one_ (i:=5) (N:=some 32) #[true,true,true,true,true,true,true,true,true,true,false] rfl rfl (by kernel_rfl) (by decide) (fun K hK=> ?_)
     refine Kd.R_append_rows_step (Kd.int .i64) (Rr:=(Kd.int .i64).K wj) (w0:=wl) wl.heap.size (by rfl) (.tmp 29) (.tmp 31) 25 3 (.int .i64 0) 8 rfl Try.underlying25 info3 rfl (by decide) (by omega) v0 p [i] (some ⟨gl9,0,none⟩) 1 1 (fun _=>True) (fun _=>False) rfl rfl ho (lit_row hgl) (fun x cs h=>h) (fun _ hk=>hk.elim) (fun _ _=>trivial) hbj hbj.size ?aL ?_
     (case aL=>omega)
     intro v9 w9 ho9 hb9 hg9 hat9
     have hrow:Kd.R (Kd.int .i64) 3 w9 w0.heap.size (fun k=>k≠gf) v9 (p++ [i]):=by
      refine Kd.R_lower (Kd.R_mono (Kd.R_bound ho9) (fun k hk=> ?_)) HS.out.bel.size
      obtain⟨fv1,hbf⟩:=HS.out.bf
      have h2:=blk_lt hbf
      omega
     have HS9:=Aside0.mk (HS.out.below hb9)
     have HR9:=Aside0.mk (Kd.R_below HR.out hb9)
     have HT9:=Aside0.mk (HT.out.trans (Turn.of_below hb9))
     have HROW:=Aside0.mk hrow
     clear ho9 hb9 hg9 hat9 hrow
     refine hK.out _ _ ((blk_cell HS9.out.bp 0).trans rfl) (fun hHeld=> ?_)
     clear hK K
     refine norm_ (a':= ?_) ?_ ?_
     rotate_left
     ·show Act.put _ (some 32) _=_;simp only [Act.put,List.setIfInBounds_toArray,List.set_cons_zero,List.set_cons_succ];rfl
     refine one_ (i:=10) (N:=some 37) #[true,true,true,true,true,true,true,true,true,true,true] rfl rfl (by kernel_rfl) (by decide) (fun K hK=> ?_)
     refine call_ 87 #[v9,.int .i64 (i+1),.int .i64 (m:Int),.pointer (some ⟨gf,0,none⟩),.pointer (some ⟨gl,0,none⟩),.pointer (some ⟨gp,0,none⟩)] (by rfl) rfl (by have h_:=enters_ Try.func87 (by kernel_rfl) rfl #[v9,.int .i64 (i+1),.int .i64 (m:Int),.pointer (some ⟨gf,0,none⟩),.pointer (some ⟨gl,0,none⟩),.pointer (some ⟨gp,0,none⟩)] w9;unfold execOp;simp [resolve,Deferred.ofValue,invoke,Act.eval,h_]) ?_
     refine(IH.out (p++ [i]) (i+1) v9 w9 (by rw [List.length_append,List.length_singleton];have:=HK.out;omega) (by omega) (by omega) HS9.out HROW.out).mono ?_
     rw [←HR2.out]
     rintro e wp ⟨rfl,hsp,htp,hqp⟩
     refine⟨_,rfl,?_⟩
     have HSP:=Aside0.mk hsp
     have HRP2:=Aside0.mk (Kd.R_step HR9.out (fun k hk hlt=>htp.block k hlt hk))
     have HTP:=Aside0.mk (HT9.out.trans htp)
     have HQP:=Aside0.mk hqp
     clear hsp htp hqp
     refine hK.out _ _ ((blk_cell HSP.out.bp 0).trans rfl) (fun hHeld=> ?_)
     clear hK K
     refine norm_ (a':= ?_) ?_ ?_
     rotate_left
     ·show Act.put _ (some 37) _=_;simp only [Act.put,List.setIfInBounds_toArray,List.set_cons_zero,List.set_cons_succ];rfl
     refine done_ (by kernel_rfl) ?_
     go_wp2
     exact⟨⟨i+1,rfl,by omega,by omega,⟨by rw [HST.out];rfl⟩,HSP,HRP2,HTP⟩,by simp [intOf];omega⟩
    |some q=>
     refine start_ (n:=11) (S:=fun w'=>w'.cell? ⟨gp,0,none⟩=some (.func (.func 87) #[] #[.pointer (some ⟨gf,0,none⟩),.pointer (some ⟨gl,0,none⟩),.pointer (some ⟨gp,0,none⟩)])) (ds:= []) #[false,false,false,false,false,false,false,false,false,false,false] (by kernel_rfl) rfl rfl ((blk_cell HS.out.bp 0).trans rfl) (fun hHeld=> ?_)
     generalize wr.drew=wl at HS HR HT hHeld ⊢
     refine take_ (i:=0) (N:=some 27) (v:= ?_) (a':= ?_) #[true,false,false,false,false,false,false,false,false,false,false] rfl rfl (by kernel_rfl) (fun _ _ _ h=>h) (Or.inl ⟨by rfl,?_⟩) hHeld ?_ ?_
     rotate_left
     ·intro w' s0
      go_simp
      with_reducible rfl
     rotate_left
     ·simp only [Act.put,List.setIfInBounds_toArray,List.set_cons_zero,List.set_cons_succ];rfl
     refine pure_ (i:=1) (N:=some 28) (v:= ?_) (a':= ?_) #[true,true,false,false,false,false,false,false,false,false,false] rfl rfl (by kernel_rfl) (fun _ _ _ h=>h) (Or.inl ⟨by rfl,?_⟩) ?_ ?_
     rotate_left
     ·intro w'
      go_simp
      with_reducible rfl
     rotate_left
     ·simp only [Act.put,List.setIfInBounds_toArray,List.set_cons_zero,List.set_cons_succ];rfl
     refine pure_ (i:=3) (N:=some 30) (v:= ?_) (a':= ?_) #[true,true,false,true,false,false,false,false,false,false,false] rfl rfl (by kernel_rfl) (fun _ _ _ h=>h) (Or.inl ⟨by rfl,?_⟩) ?_ ?_
     rotate_left
     ·intro w'
      go_simp
      with_reducible rfl
     rotate_left
     ·simp only [Act.put,List.setIfInBounds_toArray,List.set_cons_zero,List.set_cons_succ];rfl
     refine pure_ (i:=6) (N:=some 33) (v:= ?_) (a':= ?_) #[true,true,false,true,false,false,true,false,false,false,false] rfl rfl (by kernel_rfl) (fun _ _ _ h=>h) (Or.inl ⟨by rfl,?_⟩) ?_ ?_
     rotate_left
     ·intro w'
      go_simp
      with_reducible rfl
     rotate_left
     ·simp only [Act.put,List.setIfInBounds_toArray,List.set_cons_zero,List.set_cons_succ];rfl
     refine pure_ (i:=7) (N:=some 34) (v:= ?_) (a':= ?_) #[true,true,false,true,false,false,true,true,false,false,false] rfl rfl (by kernel_rfl) (fun _ _ _ h=>h) (Or.inl ⟨by rfl,?_⟩) ?_ ?_
     rotate_left
     ·intro w'
      go_simp
      with_reducible rfl
     rotate_left
     ·simp only [Act.put,List.setIfInBounds_toArray,List.set_cons_zero,List.set_cons_succ];rfl
     refine pure_ (i:=8) (N:=some 35) (v:= ?_) (a':= ?_) #[true,true,false,true,false,false,true,true,true,false,false] rfl rfl (by kernel_rfl) (fun _ _ _ h=>h) (Or.inl ⟨by rfl,?_⟩) ?_ ?_
     rotate_left
     ·intro w'
      go_simp
      with_reducible rfl
     rotate_left
     ·simp only [Act.put,List.setIfInBounds_toArray,List.set_cons_zero,List.set_cons_succ];rfl
     refine pure_ (i:=9) (N:=some 36) (v:= ?_) (a':= ?_) #[true,true,false,true,false,false,true,true,true,true,false] rfl rfl (by kernel_rfl) (fun _ _ _ h=>h) (Or.inl ⟨by rfl,?_⟩) ?_ ?_
     rotate_left
     ·intro w'
      go_simp
      with_reducible rfl
     rotate_left
     ·simp only [Act.put,List.setIfInBounds_toArray,List.set_cons_zero,List.set_cons_succ];rfl
     refine join_ (σ:=Value×Nat) 2 #[true,true,true,true,true,false,true,true,true,true,false] (fun s_=> [(29,s_.1),(31,.slice (some ⟨s_.2,0,none⟩) 1 1)]) (fun s_ w'=>(w'.cell? ⟨gp,0,none⟩=some (.func (.func 87) #[] #[.pointer (some ⟨gf,0,none⟩),.pointer (some ⟨gl,0,none⟩),.pointer (some ⟨gp,0,none⟩)]))∧Kd.R (Kd.int .i64) 3 w' wl.heap.size (fun _=>True) s_.1 p∧w'.heap[s_.2]? =some (.cells #[.int .i64 i] 3 (0,0))∧Below wl.heap.size wl w') ?_ ?_
     rotate_left
     ·intro hCont
      refine two_ (i:=2) (j:=4) (Ni:=some 29) (Nj:=some 31) #[true,true,true,true,false,false,true,true,true,true,false] #[true,true,false,true,true,false,true,true,true,true,false] rfl rfl rfl rfl (by kernel_rfl) (by decide) (by decide) (fun K hK=> ?_) (fun K hK=> ?_)
      ·refine goes_ Try.func88 (by kernel_rfl) rfl #[.slice Ap p.length cp] (by rfl) rfl rfl (by(try simp only [List.map_toArray,List.map_cons,List.map_nil]);rfl) ?_
       refine(slices_Clone_int.calls Ap cp p p wl (Kd.R_reads' HR.out).2.2 (Kd.R_reads' HR.out).2.1 (by unfold slices_Clone_int.f;rw [if_pos (by omega)])).mono ?_
       rintro e wc ⟨v0,rfl,ho,hbc⟩
       refine⟨_,rfl,?_⟩
       have HO:=Aside0.mk ho
       have HBC:=Aside0.mk hbc
       have HSc:=Aside0.mk (HS.out.below hbc)
       clear ho hbc
       refine hK.out _ _ ((blk_cell HSc.out.bp 0).trans rfl) (fun hHeld=> ?_)
       clear hK K
       refine norm_ (a':= ?_) ?_ ?_
       rotate_left
       ·show Act.put _ (some 29) _=_;simp only [Act.put,List.setIfInBounds_toArray,List.set_cons_zero,List.set_cons_succ];rfl
       refine one_ (i:=4) (N:=some 31) #[true,true,true,true,true,false,true,true,true,true,false] rfl rfl (by kernel_rfl) (by decide) (fun K hK=> ?_)
       refine value_ (w1:= ?_) (v:= ?_) (by rfl) rfl ?_ ?_
       rotate_left 2
       ·go_simp
        constructor
        ·rfl
        ·rfl
       refine hK.out _ _ ((blk_cell (blk_alloc HSc.out.bp _) 0).trans rfl) (fun hHeld=> ?_)
       clear hK K
       exact norm_ (by simp only [putAll,Act.put,List.setIfInBounds_toArray,List.set_cons_zero,List.set_cons_succ]) (hCont (v0,wc.heap.size) _ ⟨hHeld,Kd.R_below HO.out (below_alloc (Below.refl _ _) _),blk_new _ _,below_alloc HBC.out _⟩)
      ·refine value_ (w1:= ?_) (v:= ?_) (by rfl) rfl ?_ ?_
       rotate_left 2
       ·go_simp
        constructor
        ·rfl
        ·rfl
       have hba:=below_alloc (Below.refl wl.heap.size wl) (Obj.cells #[.int .i64 i] 3 (0,0))
       have HSa:=Aside0.mk (HS.out.below hba)
       have HRa:=Aside0.mk (Kd.R_below HR.out hba)
       refine hK.out _ _ ((blk_cell HSa.out.bp 0).trans rfl) (fun hHeld=> ?_)
       clear hK K
       refine norm_ (a':= ?_) ?_ ?_
       rotate_left
       ·show Act.put _ (some 31) _=_;simp only [Act.put,List.setIfInBounds_toArray,List.set_cons_zero,List.set_cons_succ];rfl
       refine one_ (i:=2) (N:=some 29) #[true,true,true,true,true,false,true,true,true,true,false] rfl rfl (by kernel_rfl) (by decide) (fun K hK=> ?_)
       refine goes_ Try.func88 (by kernel_rfl) rfl #[.slice Ap p.length cp] (by rfl) rfl rfl (by(try simp only [List.map_toArray,List.map_cons,List.map_nil]);rfl) ?_
       refine(slices_Clone_int.calls Ap cp p p _ (Kd.R_reads' HRa.out).2.2 (Kd.R_reads' HRa.out).2.1 (by unfold slices_Clone_int.f;rw [if_pos (by omega)])).mono ?_
       rintro e wc ⟨v0,rfl,ho,hbc⟩
       refine⟨_,rfl,?_⟩
       have HSc:=Aside0.mk (HSa.out.below hbc)
       refine hK.out _ _ ((blk_cell HSc.out.bp 0).trans rfl) (fun hHeld=> ?_)
       clear hK K
       exact norm_ (by simp only [putAll,Act.put,List.setIfInBounds_toArray,List.set_cons_zero,List.set_cons_succ]) (hCont (v0,wl.heap.size) _ ⟨hHeld,Kd.R_lower ho hba.size,blk_below (blk_new _ _) hbc,below_step hba hbc⟩)
     rintro⟨v0,gl9⟩ wj ⟨hHeld,ho,hgl,hbj⟩
     refine norm_ (a':= ?_) ?_ ?_
     rotate_left
     ·simp only [putAll,Act.put,List.setIfInBounds_toArray,List.set_cons_zero,List.set_cons_succ]
      rfl
     refine one_ (i:=5) (N:=some 32) #[true,true,true,true,true,true,true,true,true,true,false] rfl rfl (by kernel_rfl) (by decide) (fun K hK=> ?_)
     refine Kd.R_append_rows_step (Kd.int .i64) (Rr:=(Kd.int .i64).K wj) (w0:=wl) wl.heap.size (by rfl) (.tmp 29) (.tmp 31) 25 3 (.int .i64 0) 8 rfl Try.underlying25 info3 rfl (by decide) (by omega) v0 p [i] (some ⟨gl9,0,none⟩) 1 1 (fun _=>True) (fun _=>False) rfl rfl ho (lit_row hgl) (fun x cs h=>h) (fun _ hk=>hk.elim) (fun _ _=>trivial) hbj hbj.size ?aL ?_
     (case aL=>omega)
     intro v9 w9 ho9 hb9 hg9 hat9
     have hrow:Kd.R (Kd.int .i64) 3 w9 w0.heap.size (fun k=>k≠gf) v9 (p++ [i]):=by
      refine Kd.R_lower (Kd.R_mono (Kd.R_bound ho9) (fun k hk=> ?_)) HS.out.bel.size
      obtain⟨fv1,hbf⟩:=HS.out.bf
      have h2:=blk_lt hbf
      omega
     have HS9:=Aside0.mk (HS.out.below hb9)
     have HR9:=Aside0.mk (Kd.R_below HR.out hb9)
     have HT9:=Aside0.mk (HT.out.trans (Turn.of_below hb9))
     have HROW:=Aside0.mk hrow
     clear ho9 hb9 hg9 hat9 hrow
     refine hK.out _ _ ((blk_cell HS9.out.bp 0).trans rfl) (fun hHeld=> ?_)
     clear hK K
     refine norm_ (a':= ?_) ?_ ?_
     rotate_left
     ·show Act.put _ (some 32) _=_;simp only [Act.put,List.setIfInBounds_toArray,List.set_cons_zero,List.set_cons_succ];rfl
     refine one_ (i:=10) (N:=some 37) #[true,true,true,true,true,true,true,true,true,true,true] rfl rfl (by kernel_rfl) (by decide) (fun K hK=> ?_)
     refine call_ 87 #[v9,.int .i64 (i+1),.int .i64 (m:Int),.pointer (some ⟨gf,0,none⟩),.pointer (some ⟨gl,0,none⟩),.pointer (some ⟨gp,0,none⟩)] (by rfl) rfl (by have h_:=enters_ Try.func87 (by kernel_rfl) rfl #[v9,.int .i64 (i+1),.int .i64 (m:Int),.pointer (some ⟨gf,0,none⟩),.pointer (some ⟨gl,0,none⟩),.pointer (some ⟨gp,0,none⟩)] w9;unfold execOp;simp [resolve,Deferred.ofValue,invoke,Act.eval,h_]) ?_
     refine(IH.out (p++ [i]) (i+1) v9 w9 (by rw [List.length_append,List.length_singleton];have:=HK.out;omega) (by omega) (by omega) HS9.out HROW.out).mono ?_
     rw [←HR2.out]
     rintro e wp ⟨rfl,hsp,htp,hqp⟩
     refine⟨_,rfl,?_⟩
     have HSP:=Aside0.mk hsp
     have HRP2:=Aside0.mk (Kd.R_step HR9.out (fun k hk hlt=>htp.block k hlt hk))
     have HTP:=Aside0.mk (HT9.out.trans htp)
     have HQP:=Aside0.mk hqp
     clear hsp htp hqp
     refine hK.out _ _ ((blk_cell HSP.out.bp 0).trans rfl) (fun hHeld=> ?_)
     clear hK K
     refine norm_ (a':= ?_) ?_ ?_
     rotate_left
     ·show Act.put _ (some 37) _=_;simp only [Act.put,List.setIfInBounds_toArray,List.set_cons_zero,List.set_cons_succ];rfl
     refine done_ (by kernel_rfl) ?_
     have HRQ:=Aside0.mk (show r=some q by rw [HST.out];rfl)
     go_wp2
     go_ret
     exact⟨by rw [HRQ.out];rfl,HSP.out,HTP.out,fun q' hq'=>by rw [HRQ.out]at hq';exact HQP.out q' hq'⟩
   ·have hz:(l.l5.length-m-i).toNat=0:=by omega
    have hrn:r=none:=by rw [←HE.out,hz];rfl
    have HRN:=Aside0.mk hrn
    clear hrn hz
    go_wp2
    go_ret
    exact⟨by rw [HRN.out];rfl,HS.out,HT.out,fun q hq=>by rw [HRN.out]at hq;cases hq⟩
end Go.Proofs.Ytjifalohjlihaaa.Q
end
section
namespace Go.Proofs.Ytjifalohjlihaaa.Q
set_option linter.unusedVariables false
open Go.BigFrame Go.RowKit Go.Shelf Go.Proofs.YtjifalohjlihaaaW.PrintWords Go.Proofs.YtjifalohjlihaaaW.PrintLast Go.Proofs.YtjifalohjlihaaaW.PrintMore
theorem enumP_ne:∀(rs:List S56) (p:List Int),(∀r∈rs,r.f0≤r.f1)→enumP rs p≠ []:=by
 intro rs
 induction rs with
 |nil=>intro p _ h;simp [enumP]at h
 |cons r t ih=>
  intro p h
  unfold enumP
  intro he
  rw [List.flatMap_eq_nil_iff]at he
  have hr:=h r (List.mem_cons_self ..)
  exact ih _ (fun r' hr'=>h r' (List.mem_cons_of_mem _ hr')) (he 0 (by rw [List.mem_range];omega))
theorem possible_all {l:SL} (hv:Valid l) {out:List Int} (h:∀j:Nat,j < l.l5.length→(j:Int)∈out):l.possible out=true:=by
 have hne:=enumP_ne l.ranges [] (fun r hr=>by obtain⟨i,h0,h1,rfl⟩:=mem_rd_T hr;exact(hv.ranges i h0 h1).2.1)
 obtain⟨ns,t,e⟩:=List.exists_cons_of_ne_nil hne
 unfold SL.possible
 rw [e,List.any_cons,Bool.or_eq_true]
 exact .inl (by unfold SL.right;rw [decide_eq_true_eq];exact fun j hj=> .inl (h j hj))
theorem leave_last {l:SL} (hv:Valid l):∀(m:Nat) (out:List Int) (i:Nat),i+m=l.l5.length→(∀j:Nat,j < i→(j:Int)∈out)→l.leaveK m out i≠none:=by
 intro m
 induction m with
 |zero=>
  intro out i hi h
  unfold SL.leaveK
  rw [possible_all hv (fun j hj=>h j (by omega))]
  simp
 |succ m ih=>
  intro out i hi h
  unfold SL.leaveK
  have hk:((l.l5.length:Int)-m-i).toNat=0+1:=by omega
  rw [hk]
  unfold leaveLoop
  have h2:=ih (out++ [(i:Int)]) (i+1) (by omega) (fun j hj=>by
   rw [List.mem_append,List.mem_singleton]
   by_cases hij:j < i
   ·exact .inl (h j hij)
   ·exact .inr (by omega))
  rw [show((i+1:Nat):Int)=(i:Int)+1 by omega]at h2
  cases hL:l.leaveK m (out++ [(i:Int)]) ((i:Int)+1)with
  |none=>exact absurd hL h2
  |some q=>simp
def SL.leavesFrom (l:SL):Nat→Nat→Option (List Int)
 |0,_=>none
 |k+1,m=>(l.leaveK m [] 0).elim (l.leavesFrom k (m+1)) some
def SL.leaves (l:SL):List Int:=if l.fault≠0 then []else(l.leavesFrom (l.l5.length+1) 0).getD []
theorem leaves_ne {l:SL} (hv:Valid l):∀(k m:Nat),m+k=l.l5.length→l.leavesFrom (k+1) m≠none:=by
 intro k
 induction k with
 |zero=>
  intro m hm
  have h:=leave_last hv m [] 0 (by omega) (fun j hj=>by omega)
  unfold SL.leavesFrom
  cases hL:l.leaveK m [] ((0:Nat):Int)with
  |none=>exact absurd hL h
  |some q=>simp
 |succ k ih=>
  intro m hm
  unfold SL.leavesFrom
  cases hL:l.leaveK m [] 0 with
  |none=>simpa using ih (m+1) (by omega)
  |some q=>simp
attribute [local go_sem] run_store_func
set_option maxRecDepth 100000 in
set_option maxHeartbeats 6400000 in
theorem Leave.calls (x:SA) (l:SL) (w:World) (hr:Rd w x l):
  Calls Try.prog 38 #[.agg (x.cells l)] w fun e w'=>∃v,e= .returned (.tuple #[v,.int .i64 l.fault])∧Kd.R (Kd.int .i64) 3 w' w.heap.size (fun _=>True) v l.leaves∧Below w.heap.size w w':=by
 obtain⟨A1,c1,A2,c2,A3,c3,A4,c4,A5,c5⟩:=x
 have HB:=Aside0.mk (Below.refl w.heap.size w)
 have HR:=Aside0.mk hr
 obtain⟨er,her⟩:∃er,er=l.fault:=⟨_,rfl⟩
 obtain⟨dv,hdv⟩:∃dv,dv=l.leaves:=⟨_,rfl⟩
 have HDV:=Aside0.mk (show dv=if er≠0 then []else(l.leavesFrom (l.l5.length+1) 0).getD []by rw [hdv,her];rfl)
 have HER:=Aside0.mk her
 rw [←hdv,←her]
 clear hr her hdv
 go_enter Try.func38,Try.ntmps38
 by_cases hz:er=0
 ·have hzb:(l.fault !=0)=false:=by rw [←HER.out,hz];rfl
  have HZ:=Aside0.mk hz
  have HF:=Aside0.mk (HER.out.symm.trans hz)
  have HNE:=Aside0.mk (leaves_ne (valid_of HF.out) l.l5.length 0 (by omega))
  have HV2:=Aside0.mk (show dv=(l.leavesFrom (l.l5.length+1) 0).getD []by rw [HDV.out,if_neg (by rw [hz];simp)])
  have h55:=(valid_of HF.out).weight5
  have hwl:IntKind.i64.wrap ((l.l5.length:Int)+1)=(l.l5.length:Int)+1:=IntWalk.i64_in _ (by omega)
  clear hz
  go_upto_region 6 with(first|((with_reducible refine gate_dst (N:=1) rfl ?_);refine box_event ?hg (N:=1) ?hd (cs:=#[.int .i64 l.a0,.slice A1 l.l1.length c1,.slice A2 l.l2.length c2,.slice A3 l.l3.length c3,.slice A4 l.l4.length c4,.slice A5 l.l5.length c5]) (t:=39) ?hr ?_;(case hd=>rfl);(case hg=>rfl);(case hr=>first|(go_simp;done)|(go_simp;rfl));intro g1 hg_ w1 hbx_ hb_;have BK1:=Aside0.mk hbx_;have g1ge:w.heap.size≤g1:=(by have:=below_size HB.out;omega);have g1GE:=Aside0.mk g1ge;clear g1ge;have HBn:=Aside0.mk (below_step HB.out hb_);clear HB hg_ hb_ hbx_;have HB:=HBn;clear HBn;have f0:w1.cell? ⟨g1,0,none⟩=some (.int .i64 l.a0):=(blk_cell BK1.out 0).trans rfl;have f1:w1.cell? ⟨g1,1,none⟩=some (.slice A1 l.l1.length c1):=(blk_cell BK1.out 1).trans rfl;have f2:w1.cell? ⟨g1,2,none⟩=some (.slice A2 l.l2.length c2):=(blk_cell BK1.out 2).trans rfl;have f3:w1.cell? ⟨g1,3,none⟩=some (.slice A3 l.l3.length c3):=(blk_cell BK1.out 3).trans rfl;have f4:w1.cell? ⟨g1,4,none⟩=some (.slice A4 l.l4.length c4):=(blk_cell BK1.out 4).trans rfl;have f5:w1.cell? ⟨g1,5,none⟩=some (.slice A5 l.l5.length c5):=(blk_cell BK1.out 5).trans rfl)|(go_at_call 56;go_must (refine(CheckLoft.call ⟨A1,c1,A2,c2,A3,c3,A4,c4,A5,c5⟩ l _ (HR.out.below HB.out)).mono ?_;clear f0 f1 f2 f3 f4 f5;rintro e wE ⟨rfl,hbe⟩;replace BK1:=Aside0.mk (blk_below BK1.out hbe);replace HB:=Aside0.mk (below_step HB.out hbe);clear hbe)))
  obtain⟨gf,hgf⟩:∃k,k=wE.heap.size:=⟨_,rfl⟩
  obtain⟨gp,hgp⟩:∃k,k=wE.heap.size+1:=⟨_,rfl⟩
  obtain⟨w4,hw4⟩:∃w_,w_=World.alloc (World.alloc wE (Obj.cells #[.slice none 0 0] 25 (0,0))) (Obj.cells #[.nilFunc] 141 (0,0)):=⟨_,rfl⟩
  have BF:w4.heap[gf]? =some (.cells #[.slice none 0 0] 25 (0,0)):=by rw [hw4,hgf];exact blk_alloc (blk_new _ _) _
  have BP:w4.heap[gp]? =some (.cells #[.nilFunc] 141 (0,0)):=by
   have h_:=blk_new (World.alloc wE (Obj.cells #[.slice none 0 0] 25 (0,0))) (Obj.cells #[.nilFunc] 141 (0,0))
   rw [World.size_alloc]at h_
   rw [hw4,hgp];exact h_
  have hb4:Below wE.heap.size wE w4:=by rw [hw4];exact below_alloc (below_alloc (Below.refl _ _) _) _
  have hb04:=below_step HB.out hb4
  replace BK1:=Aside0.mk (blk_below BK1.out hb4)
  rw [←hw4,←hgp,←hgf]
  have fp:w4.cell? ⟨gp,0,none⟩=some .nilFunc:=(blk_cell BP 0).trans rfl
  have ffp:=blk_frozen BP 0
  have hwge:w.heap.size≤gp:=by have:=HB.out.size;omega
  have hwgf:w.heap.size≤gf:=by have:=HB.out.size;omega
  have hb5:Below w.heap.size w (w4.setCell ⟨gp,0,none⟩ (.func (.func 87) #[] #[.pointer (some ⟨gf,0,none⟩),.pointer (some ⟨g1,0,none⟩),.pointer (some ⟨gp,0,none⟩)])):=below_set hb04 hwge
  have HS:=Aside0.mk (show LvS w (w4.setCell ⟨gp,0,none⟩ (.func (.func 87) #[] #[.pointer (some ⟨gf,0,none⟩),.pointer (some ⟨g1,0,none⟩),.pointer (some ⟨gp,0,none⟩)])) ⟨A1,c1,A2,c2,A3,c3,A4,c4,A5,c5⟩ l g1 gf gp from
   ⟨hb5,HR.out,blk_far BK1.out (blk_ne BK1.out BP (by decide)) _,blk_set BP 0 _,⟨(none,0,0),blk_far BF (blk_ne BF BP (by decide)) _⟩,hwgf⟩)
  clear hw4 hgp hgf hb5 BP BF hb4 hb04 hwge hwgf
  have f15:(w4.setCell ⟨gp,0,none⟩ (.func (.func 87) #[] #[.pointer (some ⟨gf,0,none⟩),.pointer (some ⟨g1,0,none⟩),.pointer (some ⟨gp,0,none⟩)])).cell? ⟨g1,5,none⟩=some (.slice A5 l.l5.length c5):=(blk_cell HS.out.bl 5).trans rfl
  clear BK1 HB
  go_upto_region 7 with(fail)
  generalize w4.setCell ⟨gp,0,none⟩ (.func (.func 87) #[] #[.pointer (some ⟨gf,0,none⟩),.pointer (some ⟨g1,0,none⟩),.pointer (some ⟨gp,0,none⟩)])=w5 at HS f15 ⊢
  clear fp ffp
  go_wp2_with fail
  clear f15
  go_loopw [18] (fun v18 wr=>∃m:Nat,v18= .int .i64 (m:Int)∧m≤l.l5.length+1∧Aside0 (l.leavesFrom (l.l5.length+1-m) m=l.leavesFrom (l.l5.length+1) 0)∧Aside0 (LvS w wr ⟨A1,c1,A2,c2,A3,c3,A4,c4,A5,c5⟩ l g1 gf gp)) (fun v18 _=>(l.l5.length+1-intOf v18).toNat)
  case atStart=>exact⟨0,rfl,by omega,⟨rfl⟩,HS⟩
  case round=>
   clear HS
   obtain⟨m,rfl,hm,HE,HS⟩:=hrel
   by_cases hlt:m < l.l5.length+1
   ·obtain⟨r,hr⟩:∃r,r=l.leaveK m [] 0:=⟨_,rfl⟩
    have HST:=Aside0.mk (show l.leavesFrom (l.l5.length+1) 0=r.elim (l.leavesFrom (l.l5.length+1-(m+1)) (m+1)) some by
     rw [←HE.out,hr]
     have hk:l.l5.length+1-m=(l.l5.length+1-(m+1))+1:=by omega
     rw [hk];rfl)
    have HC:=Aside0.mk (leave_calls ⟨A1,c1,A2,c2,A3,c3,A4,c4,A5,c5⟩ l g1 gf gp w HF.out m [] 0 (.slice none 0 0) wr (by simp;omega) (by omega) (by omega) HS.out (Kd.R_nil _ _ _ _ _))
    rw [←hr]at HC
    have fP:wr.cell? ⟨gp,0,none⟩=some (.func (.func 87) #[] #[.pointer (some ⟨gf,0,none⟩),.pointer (some ⟨g1,0,none⟩),.pointer (some ⟨gp,0,none⟩)]):=(blk_cell HS.out.bp 0).trans rfl
    have hwm:IntKind.i64.wrap ((m:Int)+1)=(m:Int)+1:=IntWalk.i64_in _ (by omega)
    have hmlt:(m:Int) <(l.l5.length:Int)+1:=by omega
    clear hr HE
    cases r with
    |some q=>
     have HVQ:=Aside0.mk (show dv=q by rw [HV2.out,HST.out];rfl)
     go_wp2_with (go_at_call 87;go_must (refine HC.out.mono ?_;rintro e wp ⟨rfl,hsp,htp,hqp⟩;(obtain⟨fv,h1,h2⟩:=hqp q rfl);obtain⟨fA,fc,rfl⟩:=Kd.R_slice h2;have H1:=Aside0.mk h1;have H2:=Aside0.mk h2;have HSP:=Aside0.mk hsp;clear h1 h2 hsp hqp fP;have ff:wp.cell? ⟨gf,0,none⟩=some (.slice fA q.length fc):=(blk_cell H1.out 0).trans rfl))
     go_ret2
     exact⟨_,by rw [HZ.out];rfl,by rw [HVQ.out];exact Kd.R_mono H2.out (fun _ _=>trivial),HSP.out.bel⟩
    |none=>
     go_wp2_with (go_at_call 87;go_must (refine HC.out.mono ?_;rintro e wp ⟨rfl,hsp,htp,hqp⟩))
     exact⟨⟨m+1,by simp,by omega,⟨by rw [HST.out];rfl⟩,⟨hsp⟩⟩,by simp [intOf];omega⟩
   ·have hme:m=l.l5.length+1:=by omega
    have h0:l.leavesFrom (l.l5.length+1) 0=none:=by rw [←HE.out,hme,Nat.sub_self];rfl
    exact absurd h0 HNE.out
 ·have hzb:(l.fault !=0)=true:=by rw [←HER.out];simpa using hz
  have HV2:=Aside0.mk (show dv= []by rw [HDV.out,if_pos hz])
  clear hz
  go_wp2_with (first|((with_reducible refine gate_dst (N:=1) rfl ?_);refine box_event ?hg (N:=1) ?hd (cs:=#[.int .i64 l.a0,.slice A1 l.l1.length c1,.slice A2 l.l2.length c2,.slice A3 l.l3.length c3,.slice A4 l.l4.length c4,.slice A5 l.l5.length c5]) (t:=39) ?hr ?_;(case hd=>rfl);(case hg=>rfl);(case hr=>first|(go_simp;done)|(go_simp;rfl));intro g1 hg_ w1 hbx_ hb_;have BK1:=Aside0.mk hbx_;have g1ge:w.heap.size≤g1:=(by have:=below_size HB.out;omega);have g1GE:=Aside0.mk g1ge;clear g1ge;have HBn:=Aside0.mk (below_step HB.out hb_);clear HB hg_ hb_ hbx_;have HB:=HBn;clear HBn;have f0:w1.cell? ⟨g1,0,none⟩=some (.int .i64 l.a0):=(blk_cell BK1.out 0).trans rfl;have f1:w1.cell? ⟨g1,1,none⟩=some (.slice A1 l.l1.length c1):=(blk_cell BK1.out 1).trans rfl;have f2:w1.cell? ⟨g1,2,none⟩=some (.slice A2 l.l2.length c2):=(blk_cell BK1.out 2).trans rfl;have f3:w1.cell? ⟨g1,3,none⟩=some (.slice A3 l.l3.length c3):=(blk_cell BK1.out 3).trans rfl;have f4:w1.cell? ⟨g1,4,none⟩=some (.slice A4 l.l4.length c4):=(blk_cell BK1.out 4).trans rfl;have f5:w1.cell? ⟨g1,5,none⟩=some (.slice A5 l.l5.length c5):=(blk_cell BK1.out 5).trans rfl)|(go_at_call 56;go_must (refine(CheckLoft.call ⟨A1,c1,A2,c2,A3,c3,A4,c4,A5,c5⟩ l _ (HR.out.below HB.out)).mono ?_;clear f0 f1 f2 f3 f4 f5;rintro e wE ⟨rfl,hbe⟩;replace BK1:=Aside0.mk (blk_below BK1.out hbe);replace HB:=Aside0.mk (below_step HB.out hbe);clear hbe)))
  go_ret2
  exact⟨_,by rw [HER.out];rfl,by rw [HV2.out];exact Kd.R_nil _ _ _ _ _,HB.out⟩
end Go.Proofs.Ytjifalohjlihaaa.Q
end
section
namespace Go.Proofs.Ytjifalohjlihaaa.Q
set_option linter.unusedVariables false
open Go.BigFrame Go.RowKit Go.Shelf Go.Proofs.YtjifalohjlihaaaW.PrintWords Go.Proofs.YtjifalohjlihaaaW.PrintLast Go.Proofs.YtjifalohjlihaaaW.PrintMore
set_option maxRecDepth 100000 in
set_option maxHeartbeats 3200000 in
theorem concat2 (A:Option Addr) (ca:Nat) (xs:List Int) (B:Option Addr) (cb:Nat) (ys:List Int) (g:Nat) (w:World) (hg:w.heap[g]? =some (.cells #[.slice A xs.length ca,.slice B ys.length cb] 25 (0,0)))
  (hA:Kd.C (Kd.int .i64) w A xs.length xs) (hB:Kd.C (Kd.int .i64) w B ys.length ys) (la:xs.length≤1000) (lb:ys.length≤1000):
  Calls Try.prog 118 #[.slice (some ⟨g,0,none⟩) 2 2] w fun e w'=>∃v,e= .returned v∧Kd.R (Kd.int .i64) 3 w' w.heap.size (fun _=>True) v (xs++ys)∧Below w.heap.size w w':=by
 have HB:=Aside0.mk (Below.refl w.heap.size w)
 have HA:=Aside0.mk hA
 have HBB:=Aside0.mk hB
 have BG:=Aside0.mk hg
 clear hA hB hg
 have f0:w.cell? ⟨g,0,none⟩=some (.slice A xs.length ca):=(blk_cell BG.out 0).trans rfl
 have f1:w.cell? ⟨g,1,none⟩=some (.slice B ys.length cb):=(blk_cell BG.out 1).trans rfl
 have hw0:IntKind.i64.wrap (xs.length:Int)=(xs.length:Int):=IntWalk.i64_in _ (by omega)
 have hw1:IntKind.i64.wrap ((xs.length:Int)+(ys.length:Int))=(xs.length:Int)+(ys.length:Int):=IntWalk.i64_in _ (by omega)
 have hn0:¬((xs.length:Int) < 0):=by omega
 have hn1:¬((xs.length:Int)+(ys.length:Int) < 0):=by omega
 go_enter Try.func118,Try.ntmps118
 go_wp2
 go_loop [3,11] (fun v3 v11=>(v3= .int .i64 0∧v11= .int .i64 0)∨(v3= .int .i64 (xs.length:Int)∧v11= .int .i64 1)∨(v3= .int .i64 ((xs.length:Int)+(ys.length:Int))∧v11= .int .i64 2)) (fun _ v11=>(2-intOf v11).toNat)
 case atStart=>exact .inl ⟨rfl,rfl⟩
 case round=>
  rcases hrel with⟨rfl,rfl⟩|⟨rfl,rfl⟩|⟨rfl,rfl⟩
  ·go_wp2
   exact⟨.inr (.inl ⟨rfl,rfl⟩),by simp [intOf]⟩
  ·go_wp2
   exact⟨.inr (.inr ⟨rfl,rfl⟩),by simp [intOf]⟩
  ·go_wp2_with (go_at_call 135;go_must (refine(slices_Grow_int_int.calls none 0 [] ((xs.length:Int)+(ys.length:Int)) [] w (Kd.C_nil (Kd.int .i64) w) (Nat.le_refl _) (by unfold slices_Grow_int_int.f;rw [if_pos ⟨rfl,by omega,by omega⟩])).mono ?_;clear f0 f1;rintro e w1 ⟨v0,rfl,ho,hb⟩;have HO:=Aside0.mk ho;replace HB:=Aside0.mk hb;clear ho hb))
   go_loopw [6,27] (fun v6 v27 wr=>∃acc:List Int,(([]=acc∧v27= .int .i64 0)∨(xs=acc∧v27= .int .i64 1)∨(xs++ys=acc∧v27= .int .i64 2))∧Aside0 (Kd.R (Kd.int .i64) 3 wr w.heap.size (fun _=>True) v6 acc)∧Aside0 (Below w.heap.size w wr)) (fun _ v27 _=>(2-intOf v27).toNat)
   case atStart=>exact⟨[],.inl ⟨rfl,rfl⟩,HO,HB⟩
   case round=>
    clear HO HB
    obtain⟨acc,hd,HO,HB⟩:=hrel
    have BR:=Aside0.mk (blk_below BG.out HB.out)
    have f0:wr.cell? ⟨g,0,none⟩=some (.slice A xs.length ca):=(blk_cell BR.out 0).trans rfl
    have f1:wr.cell? ⟨g,1,none⟩=some (.slice B ys.length cb):=(blk_cell BR.out 1).trans rfl
    rcases hd with⟨rfl,rfl⟩|⟨rfl,rfl⟩|⟨rfl,rfl⟩
    ·go_wp2_with (first|((with_reducible refine gate_builtin (b:= .append) (xs:=#[.tmp 31,.tmp 32]) rfl ?_);at_builtin;refine Kd.R_append_rows (Kd.int .i64) (w0:=w) w.heap.size rfl (.tmp 31) (.tmp 32) 25 3 (.int .i64 0) 8 rfl Try.underlying25 info3 rfl (by decide) (by omega) _ [] xs _ _ _ (fun _=>True) (fun _=>False) rfl rfl ?aO ?aR (fun _ _ h=>h) (fun _ h=>h.elim) ?aF ?aB ?aS ?aL ?_;(case aR=>exact Kd.C_below HA.out HB.out);(case aB=>exact HB.out);(case aF=>exact(fun _ _=>trivial));(case aO=>exact HO.out);(case aS=>exact below_size HB.out);(case aL=>first|(simp only [List.length_nil];omega)|omega);intro v17 w12 ho hb hg hat;have HO2:=Aside0.mk ho;have HB2:=Aside0.mk hb;clear ho hb hg hat HO HB))
     go_roundw
     case measure=>simp [intOf]
     case rel=>exact⟨xs,.inr (.inl ⟨rfl,rfl⟩),HO2,HB2⟩
    ·go_wp2_with (first|((with_reducible refine gate_builtin (b:= .append) (xs:=#[.tmp 31,.tmp 32]) rfl ?_);at_builtin;refine Kd.R_append_rows (Kd.int .i64) (w0:=w) w.heap.size rfl (.tmp 31) (.tmp 32) 25 3 (.int .i64 0) 8 rfl Try.underlying25 info3 rfl (by decide) (by omega) _ xs ys _ _ _ (fun _=>True) (fun _=>False) rfl rfl ?aO ?aR (fun _ _ h=>h) (fun _ h=>h.elim) ?aF ?aB ?aS ?aL ?_;(case aR=>exact Kd.C_below HBB.out HB.out);(case aB=>exact HB.out);(case aF=>exact(fun _ _=>trivial));(case aO=>exact HO.out);(case aS=>exact below_size HB.out);(case aL=>first|(simp only [List.length_nil];omega)|omega);intro v17 w12 ho hb hg hat;have HO2:=Aside0.mk ho;have HB2:=Aside0.mk hb;clear ho hb hg hat HO HB))
     go_roundw
     case measure=>simp [intOf]
     case rel=>exact⟨xs++ys,.inr (.inr ⟨rfl,rfl⟩),HO2,HB2⟩
    ·go_wp2
     go_ret
     exact⟨_,rfl,HO.out,HB.out⟩
end Go.Proofs.Ytjifalohjlihaaa.Q
end
section
namespace Go.Proofs.Ytjifalohjlihaaa.Q
set_option linter.unusedVariables false
open Go.BigFrame Go.RowKit Go.Shelf Go.Proofs.YtjifalohjlihaaaW.PrintWords Go.Proofs.YtjifalohjlihaaaW.PrintLast Go.Proofs.YtjifalohjlihaaaW.PrintMore
def SL.isListed (l:SL) (ta tw:List Int):Prop:=ta.length=l.l1.length∧tw.length=l.l3.length∧∀j:Nat,j < l.ranges.length→(rd_T56 l.ranges j).f0≤rd (ta++tw) j∧rd (ta++tw) j≤(rd_T56 l.ranges j).f1
instance (l:SL) (ta tw:List Int):Decidable (l.isListed ta tw):=by unfold SL.isListed;infer_instance
def pad11 (ns:List Int):List Int:=ns++List.replicate (11-ns.length) 0
def SL.listed (l:SL) (ta tw:List Int):List Int:=if l.isListed ta tw then pad11 (ta++tw)else []
theorem pad_splice {ns:List Int} (h:ns.length≤11):(Go.splice (lit11 []).toList 0 (nums .i64 ns)).toArray=lit11 (pad11 ns):=by
 have h1:(pad11 ns).length=11:=by unfold pad11;rw [List.length_append,List.length_replicate];omega
 rw [←nums_lit h1]
 have h2:(lit11 []).toList=List.replicate 11 (.int .i64 0):=rfl
 rw [h2]
 unfold Go.splice pad11 nums
 rw [List.take_zero,List.nil_append,List.drop_replicate,List.map_append,List.map_replicate,List.length_map,Nat.zero_add]
theorem wpList_same_row {P:Program} {ops:Array Oper} {rest:List Oper} {o:Oper} {a:Act} {w:World} {Q:Exit→Act→World→Prop} (hgd:o.guard=none) (ty:TypeId) (x y:Operand) (ho:o.op= .store ty x y)
  (g:Nat) (cells:Array Value) (hx:a.eval x= .pointer (some ⟨g,0,none⟩)) (hy:a.eval y= .agg cells)
  (t:TypeId) (hg:w.heap[g]? =some (.cells cells t (0,0))) (hi:(P.info? ty).map (·.size)=some cells.size)
  (h1:cells.all (·.oneCell')=true)
  (h:wpList P ops Q rest (a.put o.dst undef) w):wpList P ops Q (o::rest) a w:=
 wpList_store_row hgd ty x y ho g cells hx hy t cells hg hi rfl h1 (by rw [setRow_self w g cells t (0,0) hg];exact h)
theorem nums_length (ns:List Int):(nums .i64 ns).length=ns.length:=by simp [nums]
theorem nums_one (ns:List Int):∀v∈nums .i64 ns,v.oneCell'=true:=by intro v hv;simp only [nums,List.mem_map]at hv;obtain⟨n,_,rfl⟩:=hv;rfl
theorem copy_src {w:World} {A:Option Addr} {q:List Int} {g:Nat} (h:Kd.C (Kd.int .i64) w A q.length q):0 <(nums .i64 q).length→some (⟨g,0,none⟩:Addr)=some ⟨g,0,none⟩∧∃ad,A=some ad∧∀(j:Nat) (v:Value),(nums .i64 q)[j]? =some v→w.cell? (ad.add j)=some v:=by
 intro hl
 rw [nums_length]at hl
 obtain⟨ad,e,_⟩:=rowB h 0 (by omega) (by omega)
 refine⟨rfl,ad,e,fun j v hv=> ?_⟩
 have hj:j < q.length:=by have:=(List.getElem?_eq_some_iff.1 hv).1;rw [nums_length]at this;exact this
 obtain⟨ad',e',hc⟩:=rowB h (j:Int) (by omega) (by omega)
 obtain rfl:ad=ad':=by rw [e]at e';exact Option.some.inj e'
 rw [Int.toNat_natCast]at hc
 rw [hc]
 have h2:=nums_at q (j:Int) (by omega) (by omega)
 rw [Int.toNat_natCast,List.getElem?_toArray,hv]at h2
 exact h2.symm
theorem one11 (ns:List Int):(lit11 ns).all (·.oneCell')=true:=by simp [Value.oneCell']
theorem load_nums {w:World} {g:Nat} {ns:List Int} {t:TypeId} (h:w.heap[g]? =some (.cells (lit11 ns) t (0,0))):(loadVar 147 ⟨g,0,none⟩).run Try.prog w= .ok (.agg (lit11 ns)) w:=
 run_loadVar_row w g t 147 _ (0,0) _ h under147 rfl (by kernel_rfl)
set_option maxRecDepth 100000 in
set_option maxHeartbeats 6400000 in
theorem listed_calls (x:SA) (l:SL) (TA:Option Addr) (ca:Nat) (ta:List Int) (TB:Option Addr) (cb:Nat) (tw:List Int) (w:World) (hr:Rd w x l) (hf:l.fault=0) (hA:Kd.C (Kd.int .i64) w TA ta.length ta) (hB:Kd.C (Kd.int .i64) w TB tw.length tw):
  Calls Try.prog 93 #[.agg (x.cells l),.agg #[.slice TA ta.length ca,.slice TB tw.length cb]] w fun e w'=>e= .returned (.tuple #[.agg (lit11 (l.listed ta tw)),.bool (decide (l.isListed ta tw))])∧Below w.heap.size w w':=by
 obtain⟨A1,c1,A2,c2,A3,c3,A4,c4,A5,c5⟩:=x
 have HB:=Aside0.mk (Below.refl w.heap.size w)
 have HR:=Aside0.mk hr
 have HA:=Aside0.mk hA
 have HBB:=Aside0.mk hB
 have hc5:=(valid_of hf).cake5
 have la5:=(valid_of hf).last5
 have hair:=Aside0.mk (valid_of hf).air
 have HV:=Aside0.mk (valid_of hf)
 obtain⟨ns,hns⟩:∃ns,ns=l.listed ta tw:=⟨_,rfl⟩
 obtain⟨b,hb⟩:∃b,b=decide (l.isListed ta tw):=⟨_,rfl⟩
 have HBD:=Aside0.mk hb
 have HNS:=Aside0.mk (show ns=if b then pad11 (ta++tw)else []by rw [hns,hb];unfold SL.listed;by_cases h:l.isListed ta tw<;>simp [h])
 rw [←hns,←hb]
 clear hr hA hB hf hns hb
 go_enter Try.func93,Try.ntmps93
 go_upto_region 1 with(first|((with_reducible refine gate_dst (N:=2) rfl ?_);refine box_event ?hg (N:=2) ?hd (cs:=#[.int .i64 l.a0,.slice A1 l.l1.length c1,.slice A2 l.l2.length c2,.slice A3 l.l3.length c3,.slice A4 l.l4.length c4,.slice A5 l.l5.length c5]) (t:=39) ?hr ?_;(case hd=>rfl);(case hg=>rfl);(case hr=>first|(go_simp;done)|(go_simp;rfl));intro g2 hg_ w2 hbx_ hb_;have BK2:=Aside0.mk hbx_;have g2ge:w.heap.size≤g2:=(by have:=below_size HB.out;omega);have g2GE:=Aside0.mk g2ge;clear g2ge;have HBn:=Aside0.mk (below_step HB.out hb_);clear HB hg_ hb_ hbx_;have HB:=HBn;clear HBn)|((with_reducible refine gate_dst (N:=3) rfl ?_);refine box_event ?hg (N:=3) ?hd (cs:=#[.slice TA ta.length ca,.slice TB tw.length cb]) (t:=82) ?hr ?_;(case hd=>rfl);(case hg=>rfl);(case hr=>first|(go_simp;done)|(go_simp;rfl));intro g3 hg_ w3 hbx_ hb_;have BK3:=Aside0.mk hbx_;have g3ge:w.heap.size≤g3:=(by have:=below_size HB.out;omega);have g3GE:=Aside0.mk g3ge;clear g3ge;have HBn:=Aside0.mk (below_step HB.out hb_);have z_:=Aside0.mk (blk_below BK2.out hb_);clear BK2;have BK2:=z_;clear z_;clear HB hg_ hb_ hbx_;have HB:=HBn;clear HBn))
 obtain⟨g4,hg_⟩:∃g_,g_=w3.heap.size:=⟨_,rfl⟩
 obtain⟨w4,hw_⟩:∃w_,w_=World.alloc w3 (Obj.cells #[.int .i64 0,.int .i64 0,.int .i64 0,.int .i64 0,.int .i64 0,.int .i64 0,.int .i64 0,.int .i64 0,.int .i64 0,.int .i64 0,.int .i64 0] 147):=⟨_,rfl⟩
 have hb_:Below w3.heap.size w3 w4:=by rw [hw_];exact below_alloc (Below.refl _ _) _
 have BK4:Aside0 (w4.heap[g4]? =some (Obj.cells #[.int .i64 0,.int .i64 0,.int .i64 0,.int .i64 0,.int .i64 0,.int .i64 0,.int .i64 0,.int .i64 0,.int .i64 0,.int .i64 0,.int .i64 0] 147)):=⟨by rw [hw_,hg_];exact blk_new _ _⟩
 have g4GE:Aside0 (w.heap.size≤g4):=⟨by have:=below_size HB.out;rw [hg_];exact this⟩
 replace BK2:=Aside0.mk (blk_below BK2.out hb_)
 replace BK3:=Aside0.mk (blk_below BK3.out hb_)
 replace HB:=Aside0.mk (below_step HB.out hb_)
 rw [←hw_,←hg_]
 clear hw_ hg_ hb_
 have t0:w4.cell? ⟨g3,0,none⟩=some (.slice TA ta.length ca):=(blk_cell BK3.out 0).trans rfl
 have t1:w4.cell? ⟨g3,1,none⟩=some (.slice TB tw.length cb):=(blk_cell BK3.out 1).trans rfl
 have f0:w4.cell? ⟨g2,0,none⟩=some (.int .i64 l.a0):=(blk_cell BK2.out 0).trans rfl
 have f1:w4.cell? ⟨g2,1,none⟩=some (.slice A1 l.l1.length c1):=(blk_cell BK2.out 1).trans rfl
 have f2:w4.cell? ⟨g2,2,none⟩=some (.slice A2 l.l2.length c2):=(blk_cell BK2.out 2).trans rfl
 have f3:w4.cell? ⟨g2,3,none⟩=some (.slice A3 l.l3.length c3):=(blk_cell BK2.out 3).trans rfl
 have f4:w4.cell? ⟨g2,4,none⟩=some (.slice A4 l.l4.length c4):=(blk_cell BK2.out 4).trans rfl
 have f5:w4.cell? ⟨g2,5,none⟩=some (.slice A5 l.l5.length c5):=(blk_cell BK2.out 5).trans rfl
 by_cases ha:ta.length=l.l1.length
 ·by_cases hw:tw.length=l.l3.length
  ·have hab:((ta.length:Int) !=(l.l1.length:Int))=false:=by rw [ha];exact bne_self_eq_false _
   have hwb:((tw.length:Int) !=(l.l3.length:Int))=false:=by rw [hw];exact bne_self_eq_false _
   have HLA:=Aside0.mk ha
   have HLW:=Aside0.mk hw
   have hlq:(ta++tw).length≤11:=by have:=hair.out;rw [List.length_append];omega
   have hrl:l.ranges.length=(ta++tw).length:=by have:=hair.out;rw [ranges_length,List.length_append];omega
   clear ha hw
   clear f0 f2 f4 f5
   go_wp2_with (first|(go_at_call 118;go_must (refine(concat2 TA ca ta TB cb tw _ _ (blk_new _ _) (Kd.C_below HA.out (below_alloc HB.out _)) (Kd.C_below HBB.out (below_alloc HB.out _)) (by rw [HLA.out];have:=hair.out;omega) (by rw [HLW.out];omega)).mono ?_;rintro e wC ⟨v,rfl,ho,hb⟩;obtain⟨Aq,cq,rfl,hle,hC⟩:=Kd.R_reads ho;obtain⟨q,hq⟩:∃q,q=ta++tw:=⟨_,rfl⟩;rw [←hq]at hC hle hlq hrl ⊢;have HQE:=Aside0.mk hq;have HLE:=Aside0.mk hle;have HQ:=Aside0.mk hC;clear f1 f3 t0 t1 hle hC hq ho;replace BK2:=Aside0.mk (blk_below (blk_alloc BK2.out _) hb);replace BK3:=Aside0.mk (blk_below (blk_alloc BK3.out _) hb);replace BK4:=Aside0.mk (blk_below (blk_alloc BK4.out _) hb);replace HB:=Aside0.mk (below_step (below_alloc HB.out _) hb);clear hb;have f0:wC.cell? ⟨g2,0,none⟩=some (.int .i64 l.a0):=(blk_cell BK2.out 0).trans rfl;have f1:wC.cell? ⟨g2,1,none⟩=some (.slice A1 l.l1.length c1):=(blk_cell BK2.out 1).trans rfl;have f2:wC.cell? ⟨g2,2,none⟩=some (.slice A2 l.l2.length c2):=(blk_cell BK2.out 2).trans rfl;have f3:wC.cell? ⟨g2,3,none⟩=some (.slice A3 l.l3.length c3):=(blk_cell BK2.out 3).trans rfl;have f4:wC.cell? ⟨g2,4,none⟩=some (.slice A4 l.l4.length c4):=(blk_cell BK2.out 4).trans rfl;have f5:wC.cell? ⟨g2,5,none⟩=some (.slice A5 l.l5.length c5):=(blk_cell BK2.out 5).trans rfl))|(go_at_call 105;go_must (refine(L_ranges.call ⟨A1,c1,A2,c2,A3,c3,A4,c4,A5,c5⟩ l _ (HR.out.below HB.out) (by have:=hair.out;omega) (by omega)).mono ?_;rintro e wR ⟨v,rfl,ho,hb⟩;obtain⟨Ar,cr,rfl,hle,hC⟩:=Kd.R_reads ho;have HLR:=Aside0.mk hle;have HRN:=Aside0.mk hC;replace HQ:=Aside0.mk (Kd.C_below HQ.out hb);clear f0 f1 f2 f3 f4 f5 hle hC ho;replace BK2:=Aside0.mk (blk_below BK2.out hb);replace BK3:=Aside0.mk (blk_below BK3.out hb);replace BK4:=Aside0.mk (blk_below BK4.out hb);replace HB:=Aside0.mk (below_step HB.out hb);clear hb)))
   have hj0:∀k:Nat,k < 0→(rd_T56 l.ranges k).f0≤rd q k∧rd q k≤(rd_T56 l.ranges k).f1:=fun k hk=>absurd hk (Nat.not_lt_zero _)
   have HJ0:=Aside0.mk hj0
   clear hj0
   go_loopw [35] (fun v35 wr=>∃j:Nat,v35= .int .i64 (j:Int)∧j≤q.length∧Aside0 (∀k:Nat,k < j→(rd_T56 l.ranges k).f0≤rd q k∧rd q k≤(rd_T56 l.ranges k).f1)∧Aside0 (Kd.C (Kd.int .i64) wr Aq q.length q)∧Aside0 (Kd.C k56 wr Ar l.ranges.length l.ranges)∧Aside0 (wr.heap[g4]? =some (.cells #[.int .i64 0,.int .i64 0,.int .i64 0,.int .i64 0,.int .i64 0,.int .i64 0,.int .i64 0,.int .i64 0,.int .i64 0,.int .i64 0,.int .i64 0] 147 (0,0)))∧Aside0 (Below w.heap.size w wr)) (fun v35 _=>(q.length-intOf v35).toNat)
   case atStart=>exact⟨0,rfl,Nat.zero_le _,HJ0,HQ,HRN,BK4,HB⟩
   case round=>
    clear HQ HRN BK4 HB HJ0
    obtain⟨j,rfl,hj,HJ,HQ,HRN,BK4,HB⟩:=hrel
    by_cases hlt:j < q.length
    ·obtain⟨adr,er,fr0,fr1⟩:=at_T56 HRN.out (j:Int) (by omega) (by omega)
     obtain⟨adq,eq_,fq⟩:=rowB HQ.out (j:Int) (by omega) (by omega)
     subst er eq_
     rw [Int.toNat_natCast]at fr0 fr1 fq
     obtain⟨lo,hlo⟩:∃lo,lo=(rd_T56 l.ranges (j:Int)).f0:=⟨_,rfl⟩
     obtain⟨hi,hhi⟩:∃hi,hi=(rd_T56 l.ranges (j:Int)).f1:=⟨_,rfl⟩
     obtain⟨nj,hnj⟩:∃nj,nj=rd q (j:Int):=⟨_,rfl⟩
     rw [←hlo]at fr0
     rw [←hhi]at fr1
     rw [←hnj]at fq
     obtain⟨bv,hbv⟩:∃bv,bv=decide (lo≤nj∧nj≤hi):=⟨_,rfl⟩
     have HBV:=Aside0.mk hbv
     have HLO:=Aside0.mk hlo
     have HHI:=Aside0.mk hhi
     have HNJ:=Aside0.mk hnj
     have hlti:(j:Int) <(q.length:Int):=by omega
     have hwj:IntKind.i64.wrap ((j:Int)+1)=(j:Int)+1:=IntWalk.i64_in _ (by omega)
     clear hlo hhi hnj hbv
     go_upto_region 7 with(fail)
     obtain⟨g8,hg_⟩:∃g_,g_=wr.heap.size:=⟨_,rfl⟩
     obtain⟨w8,hw_⟩:∃w_,w_=World.alloc wr (Obj.cells #[.int .i64 lo,.int .i64 hi] 56):=⟨_,rfl⟩
     have hb_:Below wr.heap.size wr w8:=by rw [hw_];exact below_alloc (Below.refl _ _) _
     have BK8:Aside0 (w8.heap[g8]? =some (Obj.cells #[.int .i64 lo,.int .i64 hi] 56)):=⟨by rw [hw_,hg_];exact blk_new _ _⟩
     have g8GE:Aside0 (w.heap.size≤g8):=⟨by have:=below_size HB.out;rw [hg_];exact this⟩
     replace BK4:=Aside0.mk (blk_below BK4.out hb_)
     replace HQ:=Aside0.mk (Kd.C_below HQ.out hb_)
     replace HRN:=Aside0.mk (Kd.C_below HRN.out hb_)
     have FQ:=Aside0.mk ((hb_.cell (World.block_lt_of_cell? wr _ fq)).trans fq)
     replace HB:=Aside0.mk (below_step HB.out hb_)
     rw [←hw_,←hg_]
     clear hw_ hg_ hb_
     clear fr0 fr1 fq
     go_wp2_with fail
     replace BK8:=Aside0.mk (blk_drew BK8.out)
     replace BK4:=Aside0.mk (blk_drew BK4.out)
     replace HQ:=Aside0.mk (Kd.C_below HQ.out (below_drew1 (Below.refl _ _)))
     replace HRN:=Aside0.mk (Kd.C_below HRN.out (below_drew1 (Below.refl _ _)))
     replace FQ:=Aside0.mk (show w8.drew.cell? (adq.add j)=_ from FQ.out)
     replace HB:=Aside0.mk (below_drew1 HB.out)
     refine start_ (n:=7) (S:=fun w'=>w'.cell? ⟨g8,0,none⟩=some (.int .i64 lo)∧w'.cell? ⟨g8,1,none⟩=some (.int .i64 hi)∧w'.cell? (adq.add j)=some (.int .i64 nj)) (ds:= []) #[false,false,false,false,false,false,false] (by kernel_rfl) rfl rfl ⟨(blk_cell BK8.out 0).trans rfl,(blk_cell BK8.out 1).trans rfl,FQ.out⟩ (fun hHeld=> ?_)
     generalize w8.drew=wd at BK8 BK4 HQ HRN FQ HB hHeld ⊢
     refine take_ (i:=0) (N:=some 40) (v:= ?_) (a':= ?_) #[true,false,false,false,false,false,false] rfl rfl (by kernel_rfl) (fun _ _ _ h=>h) (Or.inl ⟨by rfl,?_⟩) hHeld ?_ ?_
     rotate_left
     ·rintro w' ⟨s0,s1,s2⟩
      go_simp
      with_reducible rfl
     rotate_left
     ·simp only [Act.put,List.setIfInBounds_toArray,List.set_cons_zero,List.set_cons_succ];rfl
     refine pure_ (i:=1) (N:=some 41) (v:= ?_) (a':= ?_) #[true,true,false,false,false,false,false] rfl rfl (by kernel_rfl) (fun _ _ _ h=>h) (Or.inl ⟨by rfl,?_⟩) ?_ ?_
     rotate_left
     ·intro w'
      go_simp
      with_reducible rfl
     rotate_left
     ·simp only [Act.put,List.setIfInBounds_toArray,List.set_cons_zero,List.set_cons_succ];rfl
     refine pure_ (i:=2) (N:=some 42) (v:= ?_) (a':= ?_) #[true,true,true,false,false,false,false] rfl rfl (by kernel_rfl) (fun _ _ _ h=>h) (Or.inl ⟨by rfl,?_⟩) ?_ ?_
     rotate_left
     ·intro w'
      go_simp
      with_reducible rfl
     rotate_left
     ·simp only [Act.put,List.setIfInBounds_toArray,List.set_cons_zero,List.set_cons_succ];rfl
     refine take_ (i:=3) (N:=some 43) (v:= ?_) (a':= ?_) #[true,true,true,true,false,false,false] rfl rfl (by kernel_rfl) (fun _ _ _ h=>h) (Or.inl ⟨by rfl,?_⟩) hHeld ?_ ?_
     rotate_left
     ·rintro w' ⟨s0,s1,s2⟩
      go_simp
      with_reducible rfl
     rotate_left
     ·simp only [Act.put,List.setIfInBounds_toArray,List.set_cons_zero,List.set_cons_succ];rfl
     refine take_ (i:=4) (N:=some 44) (v:= ?_) (a':= ?_) #[true,true,true,true,true,false,false] rfl rfl (by kernel_rfl) (fun _ _ _ h=>h) (Or.inl ⟨by rfl,?_⟩) hHeld ?_ ?_
     rotate_left
     ·rintro w' ⟨s0,s1,s2⟩
      go_simp
      with_reducible rfl
     rotate_left
     ·simp only [Act.put,List.setIfInBounds_toArray,List.set_cons_zero,List.set_cons_succ];rfl
     refine one_ (i:=5) (N:=some 45) #[true,true,true,true,true,true,false] rfl rfl (by kernel_rfl) (by decide) (fun K hK=> ?_)
     refine goes_ Try.func119 (by kernel_rfl) rfl #[.agg #[.int .i64 lo,.int .i64 hi],.int .i64 nj] (by rfl) rfl rfl (by(try simp only [List.map_toArray,List.map_cons,List.map_nil]);rfl) ?_
     refine(shelf_Range_has.calls lo hi nj bv wd (by rw [has_some,HBV.out])).mono ?_
     rintro e wl ⟨rfl,hb⟩
     refine⟨_,rfl,?_⟩
     replace BK8:=Aside0.mk (blk_below BK8.out hb)
     replace BK4:=Aside0.mk (blk_below BK4.out hb)
     replace HQ:=Aside0.mk (Kd.C_below HQ.out hb)
     replace HRN:=Aside0.mk (Kd.C_below HRN.out hb)
     replace FQ:=Aside0.mk ((hb.cell (World.block_lt_of_cell? wd _ FQ.out)).trans FQ.out)
     replace HB:=Aside0.mk (below_step HB.out hb)
     clear hb
     refine hK.out _ _ ⟨(blk_cell BK8.out 0).trans rfl,(blk_cell BK8.out 1).trans rfl,FQ.out⟩ (fun hHeld=> ?_)
     clear hK K
     refine norm_ (a':= ?_) ?_ ?_
     rotate_left
     ·show Act.put _ (some 45) _=_;simp only [Act.put,List.setIfInBounds_toArray,List.set_cons_zero,List.set_cons_succ];rfl
     refine pure_ (i:=6) (N:=some 46) (v:= ?_) (a':= ?_) #[true,true,true,true,true,true,true] rfl rfl (by kernel_rfl) (fun _ _ _ h=>h) (Or.inl ⟨by rfl,?_⟩) ?_ ?_
     rotate_left
     ·intro w'
      go_simp
      with_reducible rfl
     rotate_left
     ·simp only [Act.put,List.setIfInBounds_toArray,List.set_cons_zero,List.set_cons_succ];rfl
     refine done_ (by kernel_rfl) ?_
     cases bv with
     |true=>
      go_wp2_with fail
      have hbv:lo≤nj∧nj≤hi:=of_decide_eq_true HBV.out.symm
      refine⟨⟨j+1,by simp,by omega,⟨fun k hk=> ?_⟩,HQ,HRN,BK4,HB⟩,by simp [intOf];omega⟩
      by_cases hkj:k < j
      ·exact HJ.out k hkj
      ·obtain rfl:k=j:=by omega
       rw [←HLO.out,←HHI.out,←HNJ.out];exact hbv
     |false=>
      have hbv:¬(lo≤nj∧nj≤hi):=of_decide_eq_false HBV.out.symm
      have HBF:=Aside0.mk (show b=false by
       rw [HBD.out]
       refine decide_eq_false (fun h=>hbv ?_)
       have h2:=h.2.2 j (by rw [hrl];exact hlt)
       rw [←HQE.out,←HLO.out,←HHI.out,←HNJ.out]at h2
       exact h2)
      have HN0:=Aside0.mk (show ns= []by rw [HNS.out,HBF.out];rfl)
      clear hbv
      go_wp2_with (first|((with_reducible refine wpList_load_row (o:=⟨some 47,_,_,_,_,_⟩) rfl 147 (.tmp 4) rfl g4 ?_ 147 (lit11 []) (0,0) (.array 11 3) ?_ ?_ ?_ ?_ ?_);exact rfl;exact BK4.out;exact under147;exact rfl;kernel_rfl)|((with_reducible refine wpList_same_row (o:=⟨none,_,_,_,_,_⟩) rfl 147 (.tmp 4) (.tmp 47) rfl g4 (lit11 []) ?_ ?_ 147 ?_ ?_ ?_ ?_);exact rfl;exact rfl;exact BK4.out;kernel_rfl;exact one11 _))
      refine bodyPost_ret (results_cell2 rfl rfl (load_nums (ns:= []) BK4.out)) rfl ?_
      exact⟨by rw [HBF.out,HN0.out];rfl,HB.out⟩
    ·have hje:j=q.length:=by omega
     subst hje
     have HBT:=Aside0.mk (show b=true by
      rw [HBD.out]
      refine decide_eq_true ⟨HLA.out,HLW.out,fun k hk=> ?_⟩
      rw [←HQE.out];exact HJ.out k (by rw [hrl]at hk;exact hk))
     have HN1:=Aside0.mk (show ns=pad11 q by rw [HNS.out,HBT.out,HQE.out];rfl)
     have hlti:(q.length:Int)≤(q.length:Int):=Int.le_refl _
     go_wp2_with (first|((with_reducible refine wpList_copy_splice (o:=⟨some 51,_,_,_,_,_⟩) rfl (.tmp 49) (.tmp 50) 25 25 rfl 3 Try.underlying25 ?_ (some ⟨g4,0,none⟩) Aq 11 11 q.length cq ?_ ?_ g4 0 (lit11 []).toList 147 ?_ (nums .i64 q) ?_ ?_ ?_ ?_ w.heap.size w ?_ ?_ ?_);kernel_rfl;exact rfl;exact rfl;exact BK4.out;exact(by rw [nums_length];exact(Nat.min_eq_left hlq).symm);exact(copy_src HQ.out);exact(by rw [nums_length];exact(show 0+q.length≤11 by omega));exact nums_one q;exact HB.out;exact g4GE.out;intro w9 hg9 hb9;replace BK4:=Aside0.mk ((congrArg (fun x_=>w9.heap[g4]? =some (.cells x_ 147 (0,0))) (pad_splice hlq)).mp hg9.out);replace HB:=Aside0.mk hb9;clear hg9 hb9)|((with_reducible refine wpList_load_row (o:=⟨some 52,_,_,_,_,_⟩) rfl 147 (.tmp 4) rfl g4 ?_ 147 (lit11 (pad11 q)) (0,0) (.array 11 3) ?_ ?_ ?_ ?_ ?_);exact rfl;exact BK4.out;exact under147;exact rfl;kernel_rfl)|((with_reducible refine wpList_same_row (o:=⟨none,_,_,_,_,_⟩) rfl 147 (.tmp 4) (.tmp 52) rfl g4 (lit11 (pad11 q)) ?_ ?_ 147 ?_ ?_ ?_ ?_);exact rfl;exact rfl;exact BK4.out;kernel_rfl;exact one11 _))
     refine bodyPost_ret (results_cell2 rfl rfl (load_nums (ns:=pad11 q) BK4.out)) rfl ?_
     exact⟨by rw [HBT.out,HN1.out];rfl,HB.out⟩
  ·have hab:((ta.length:Int) !=(l.l1.length:Int))=false:=by rw [ha];exact bne_self_eq_false _
   have hwb:((tw.length:Int) !=(l.l3.length:Int))=true:=by rw [bne_iff_ne];omega
   have HBF:=Aside0.mk (show b=false by rw [HBD.out];exact decide_eq_false (fun h=>hw h.2.1))
   have HN0:=Aside0.mk (show ns= []by rw [HNS.out,HBF.out];rfl)
   clear ha hw
   go_wp2_with (first|((with_reducible refine wpList_load_row (o:=⟨some 25,_,_,_,_,_⟩) rfl 147 (.tmp 4) rfl g4 ?_ 147 (lit11 []) (0,0) (.array 11 3) ?_ ?_ ?_ ?_ ?_);exact rfl;exact BK4.out;exact under147;exact rfl;kernel_rfl)|((with_reducible refine wpList_same_row (o:=⟨none,_,_,_,_,_⟩) rfl 147 (.tmp 4) (.tmp 25) rfl g4 (lit11 []) ?_ ?_ 147 ?_ ?_ ?_ ?_);exact rfl;exact rfl;exact BK4.out;kernel_rfl;exact one11 _))
   refine bodyPost_ret (results_cell2 rfl rfl (load_nums (ns:= []) BK4.out)) rfl ?_
   exact⟨by rw [HBF.out,HN0.out];rfl,HB.out⟩
 ·have hab:((ta.length:Int) !=(l.l1.length:Int))=true:=by rw [bne_iff_ne];omega
  have HBF:=Aside0.mk (show b=false by rw [HBD.out];exact decide_eq_false (fun h=>ha h.1))
  have HN0:=Aside0.mk (show ns= []by rw [HNS.out,HBF.out];rfl)
  clear ha
  go_wp2_with (first|((with_reducible refine wpList_load_row (o:=⟨some 25,_,_,_,_,_⟩) rfl 147 (.tmp 4) rfl g4 ?_ 147 (lit11 []) (0,0) (.array 11 3) ?_ ?_ ?_ ?_ ?_);exact rfl;exact BK4.out;exact under147;exact rfl;kernel_rfl)|((with_reducible refine wpList_same_row (o:=⟨none,_,_,_,_,_⟩) rfl 147 (.tmp 4) (.tmp 25) rfl g4 (lit11 []) ?_ ?_ 147 ?_ ?_ ?_ ?_);exact rfl;exact rfl;exact BK4.out;kernel_rfl;exact one11 _))
  refine bodyPost_ret (results_cell2 rfl rfl (load_nums (ns:= []) BK4.out)) rfl ?_
  exact⟨by rw [HBF.out,HN0.out];rfl,HB.out⟩
end Go.Proofs.Ytjifalohjlihaaa.Q
end
section
namespace Go.Proofs.Ytjifalohjlihaaa.Q
set_option linter.unusedVariables false
open Go.BigFrame Go.RowKit Go.Shelf Go.Proofs.YtjifalohjlihaaaW.PrintWords Go.Proofs.YtjifalohjlihaaaW.PrintLast Go.Proofs.YtjifalohjlihaaaW.PrintMore
theorem num_listed {l:SL} (hv:Valid l) {ta tw:List Int} (h:l.isListed ta tw):Num (l.listed ta tw):=by
 have hn:l.listed ta tw=pad11 (ta++tw):=if_pos h
 have hl:(ta++tw).length≤11:=by have:=hv.air;have:=hv.last5;have:=hv.cake5;rw [List.length_append,h.1,h.2.1];omega
 have hrl:l.ranges.length=(ta++tw).length:=by rw [ranges_length,List.length_append,h.1,h.2.1]
 rw [hn]
 refine⟨by unfold pad11;rw [List.length_append,List.length_replicate];omega,fun i=> ?_⟩
 unfold rd pad11
 rw [List.getD_eq_getElem?_getD,List.getElem?_append]
 split
 ·rename_i hi
  have h2:=h.2.2 i.toNat (by rw [hrl];exact hi)
  have h3:=hv.ranges (i.toNat:Nat) (by omega) (by rw [hrl];omega)
  unfold rd at h2
  rw [List.getD_eq_getElem?_getD,Int.toNat_natCast]at h2
  omega
 ·rw [List.getElem?_replicate]
  split<;>simp
def SL.playErr (l:SL) (place ta tw:List Int):Int:=if l.fault≠0 then l.fault else if l.isListed ta tw then(if l.isPlace place then 0 else 2)else 2
def SL.playRows (l:SL) (place ns:List Int) (k:Nat):List (List Int):=(List.range k).map fun (i:Nat)=>l.left ns (i:Int) (rd place (i:Int))
def SL.playOf (l:SL) (place ta tw:List Int):List (List Int):=if l.playErr place ta tw=0 then l.playRows place (l.listed ta tw) place.length else []
abbrev kL:Kd (List Int):=Kd.slice 3 (Kd.int .i64)
theorem playRows_length (l:SL) (place ns:List Int) (k:Nat):(l.playRows place ns k).length=k:=by simp [SL.playRows]
theorem playRows_succ (l:SL) (place ns:List Int) (k:Nat):l.playRows place ns (k+1)=l.playRows place ns k++ [l.left ns (k:Int) (rd place (k:Int))]:=by
 simp [SL.playRows,List.range_succ]
theorem slice_M {wr W:World} {v:Value} {xs:List Int} {b:Nat} (h:Kd.R (Kd.int .i64) 3 W wr.heap.size (fun _=>True) v xs) (hle:b≤wr.heap.size):kL.M W b (fun k=>wr.heap.size≤k) xs [v]:=
 ⟨v,rfl,Kd.R_lower (Kd.R_mono (Kd.R_bound h) (fun k hk=>hk.2.1)) hle⟩
set_option maxRecDepth 100000 in
set_option maxHeartbeats 6400000 in
theorem Play.calls (x:SA) (l:SL) (B:Option Addr) (cB:Nat) (place:List Int) (TA:Option Addr) (ca:Nat) (ta:List Int) (TB:Option Addr) (cb:Nat) (tw:List Int) (w:World) (hr:Rd w x l) (hP:Kd.C (Kd.int .i64) w B place.length place) (hcB:place.length≤cB) (hA:Kd.C (Kd.int .i64) w TA ta.length ta) (hB:Kd.C (Kd.int .i64) w TB tw.length tw):
  Calls Try.prog 46 #[.agg (x.cells l),.slice B place.length cB,.agg #[.slice TA ta.length ca,.slice TB tw.length cb]] w fun e w'=>∃v,e= .returned (.tuple #[v,.int .i64 (l.playErr place ta tw)])∧Kd.R kL 25 w' w.heap.size (fun _=>True) v (l.playOf place ta tw)∧Below w.heap.size w w':=by
 obtain⟨A1,c1,A2,c2,A3,c3,A4,c4,A5,c5⟩:=x
 have HB:=Aside0.mk (Below.refl w.heap.size w)
 have HR:=Aside0.mk hr
 have HA:=Aside0.mk hA
 have HBB:=Aside0.mk hB
 have HPR:=Aside0.mk hP
 obtain⟨er,her⟩:∃er,er=l.fault:=⟨_,rfl⟩
 obtain⟨ns,hns⟩:∃ns,ns=l.listed ta tw:=⟨_,rfl⟩
 obtain⟨b,hb⟩:∃b,b=decide (l.isListed ta tw):=⟨_,rfl⟩
 obtain⟨bp,hbp⟩:∃bp,bp=decide (l.isPlace place):=⟨_,rfl⟩
 obtain⟨dv,hdv⟩:∃dv,dv=l.playOf place ta tw:=⟨_,rfl⟩
 obtain⟨de,hde⟩:∃de,de=l.playErr place ta tw:=⟨_,rfl⟩
 have HDE:=Aside0.mk (show de=if er≠0 then er else if b then(if bp then 0 else 2)else 2 by rw [hde,her,hb,hbp];unfold SL.playErr;by_cases h1:l.isListed ta tw<;>by_cases h2:l.isPlace place<;>simp [h1,h2])
 have HDV:=Aside0.mk (show dv=if de=0 then l.playRows place ns place.length else []by rw [hdv,hde,hns];rfl)
 have HER:=Aside0.mk her
 have HNS:=Aside0.mk hns
 have HLB:=Aside0.mk hb
 have HPB:=Aside0.mk hbp
 rw [←hdv,←hde]
 clear hr hA hB hP her hns hb hbp hdv hde
 go_enter Try.func46,Try.ntmps46
 by_cases hz:er=0
 ·have hzb:(l.fault !=0)=false:=by rw [←HER.out,hz];rfl
  have HZ:=Aside0.mk hz
  have HF:=Aside0.mk (HER.out.symm.trans hz)
  have HDE2:=Aside0.mk (show de=if b then(if bp then 0 else 2)else 2 by rw [HDE.out,if_neg (by rw [hz];simp)])
  clear hz
  go_upto_region 5 with(first|((with_reducible refine gate_dst (N:=3) rfl ?_);refine box_event ?hg (N:=3) ?hd (cs:=#[.int .i64 l.a0,.slice A1 l.l1.length c1,.slice A2 l.l2.length c2,.slice A3 l.l3.length c3,.slice A4 l.l4.length c4,.slice A5 l.l5.length c5]) (t:=39) ?hr ?_;(case hd=>rfl);(case hg=>rfl);(case hr=>first|(go_simp;done)|(go_simp;rfl));intro gl hg_ w2 hbx_ hb_;have BKL:=Aside0.mk hbx_;have glge:w.heap.size≤gl:=(by have:=below_size HB.out;omega);have glGE:=Aside0.mk glge;clear glge;have HBn:=Aside0.mk (below_step HB.out hb_);clear HB hg_ hb_ hbx_;have HB:=HBn;clear HBn)|((with_reducible refine gate_dst (N:=5) rfl ?_);refine box_event ?hg (N:=5) ?hd (cs:=#[.slice TA ta.length ca,.slice TB tw.length cb]) (t:=82) ?hr ?_;(case hd=>rfl);(case hg=>rfl);(case hr=>first|(go_simp;done)|(go_simp;rfl));intro gt hg_ w3 hbx_ hb_;have BKT:=Aside0.mk hbx_;have gtge:w.heap.size≤gt:=(by have:=below_size HB.out;omega);have gtGE:=Aside0.mk gtge;clear gtge;have HBn:=Aside0.mk (below_step HB.out hb_);have z_:=Aside0.mk (blk_below BKL.out hb_);clear BKL;have BKL:=z_;clear z_;clear HB hg_ hb_ hbx_;have HB:=HBn;clear HBn;have f0:w3.cell? ⟨gl,0,none⟩=some (.int .i64 l.a0):=(blk_cell BKL.out 0).trans rfl;have f1:w3.cell? ⟨gl,1,none⟩=some (.slice A1 l.l1.length c1):=(blk_cell BKL.out 1).trans rfl;have f2:w3.cell? ⟨gl,2,none⟩=some (.slice A2 l.l2.length c2):=(blk_cell BKL.out 2).trans rfl;have f3:w3.cell? ⟨gl,3,none⟩=some (.slice A3 l.l3.length c3):=(blk_cell BKL.out 3).trans rfl;have f4:w3.cell? ⟨gl,4,none⟩=some (.slice A4 l.l4.length c4):=(blk_cell BKL.out 4).trans rfl;have f5:w3.cell? ⟨gl,5,none⟩=some (.slice A5 l.l5.length c5):=(blk_cell BKL.out 5).trans rfl)|(go_at_call 56;go_must (refine(CheckLoft.call ⟨A1,c1,A2,c2,A3,c3,A4,c4,A5,c5⟩ l _ (HR.out.below HB.out)).mono ?_;clear f0 f1 f2 f3 f4 f5;rintro e wE ⟨rfl,hbe⟩;replace BKL:=Aside0.mk (blk_below BKL.out hbe);replace BKT:=Aside0.mk (blk_below BKT.out hbe);replace HB:=Aside0.mk (below_step HB.out hbe);clear hbe;have f0:wE.cell? ⟨gl,0,none⟩=some (.int .i64 l.a0):=(blk_cell BKL.out 0).trans rfl;have f1:wE.cell? ⟨gl,1,none⟩=some (.slice A1 l.l1.length c1):=(blk_cell BKL.out 1).trans rfl;have f2:wE.cell? ⟨gl,2,none⟩=some (.slice A2 l.l2.length c2):=(blk_cell BKL.out 2).trans rfl;have f3:wE.cell? ⟨gl,3,none⟩=some (.slice A3 l.l3.length c3):=(blk_cell BKL.out 3).trans rfl;have f4:wE.cell? ⟨gl,4,none⟩=some (.slice A4 l.l4.length c4):=(blk_cell BKL.out 4).trans rfl;have f5:wE.cell? ⟨gl,5,none⟩=some (.slice A5 l.l5.length c5):=(blk_cell BKL.out 5).trans rfl;have t0:wE.cell? ⟨gt,0,none⟩=some (.slice TA ta.length ca):=(blk_cell BKT.out 0).trans rfl;have t1:wE.cell? ⟨gt,1,none⟩=some (.slice TB tw.length cb):=(blk_cell BKT.out 1).trans rfl))|(go_at_call 93;go_must (refine(listed_calls ⟨A1,c1,A2,c2,A3,c3,A4,c4,A5,c5⟩ l TA ca ta TB cb tw _ (HR.out.below HB.out) HF.out (Kd.C_below HA.out HB.out) (Kd.C_below HBB.out HB.out)).mono ?_;rw [←HNS.out,←HLB.out];clear f0 f1 f2 f3 f4 f5 t0 t1;rintro e wL ⟨rfl,hbe⟩;replace BKL:=Aside0.mk (blk_below BKL.out hbe);replace BKT:=Aside0.mk (blk_below BKT.out hbe);replace HB:=Aside0.mk (below_step HB.out hbe);clear hbe)))
  obtain⟨g9,hg_⟩:∃g_,g_=wL.heap.size:=⟨_,rfl⟩
  obtain⟨w9,hw_⟩:∃w_,w_=World.alloc wL (Obj.cells #[.int .i64 (rd ns 0),.int .i64 (rd ns 1),.int .i64 (rd ns 2),.int .i64 (rd ns 3),.int .i64 (rd ns 4),.int .i64 (rd ns 5),.int .i64 (rd ns 6),.int .i64 (rd ns 7),.int .i64 (rd ns 8),.int .i64 (rd ns 9),.int .i64 (rd ns 10)] 147):=⟨_,rfl⟩
  have hb_:Below wL.heap.size wL w9:=by rw [hw_];exact below_alloc (Below.refl _ _) _
  have BK9:Aside0 (w9.heap[g9]? =some (Obj.cells #[.int .i64 (rd ns 0),.int .i64 (rd ns 1),.int .i64 (rd ns 2),.int .i64 (rd ns 3),.int .i64 (rd ns 4),.int .i64 (rd ns 5),.int .i64 (rd ns 6),.int .i64 (rd ns 7),.int .i64 (rd ns 8),.int .i64 (rd ns 9),.int .i64 (rd ns 10)] 147)):=⟨by rw [hw_,hg_];exact blk_new _ _⟩
  have g9GE:Aside0 (w.heap.size≤g9):=⟨by have:=below_size HB.out;rw [hg_];exact this⟩
  replace BKL:=Aside0.mk (blk_below BKL.out hb_)
  replace BKT:=Aside0.mk (blk_below BKT.out hb_)
  replace HB:=Aside0.mk (below_step HB.out hb_)
  rw [←hw_,←hg_]
  clear hw_ hg_ hb_
  cases b with
  |false=>
   have HE2:=Aside0.mk (show de=2 by rw [HDE2.out];rfl)
   have HV2:=Aside0.mk (show dv= []by rw [HDV.out,HE2.out];rfl)
   go_wp2
   go_ret2
   exact⟨_,by rw [HE2.out];rfl,by rw [HV2.out];exact Kd.R_nil _ _ _ _ _,HB.out⟩
  |true=>
   have f0:w9.cell? ⟨gl,0,none⟩=some (.int .i64 l.a0):=(blk_cell BKL.out 0).trans rfl
   have f1:w9.cell? ⟨gl,1,none⟩=some (.slice A1 l.l1.length c1):=(blk_cell BKL.out 1).trans rfl
   have f2:w9.cell? ⟨gl,2,none⟩=some (.slice A2 l.l2.length c2):=(blk_cell BKL.out 2).trans rfl
   have f3:w9.cell? ⟨gl,3,none⟩=some (.slice A3 l.l3.length c3):=(blk_cell BKL.out 3).trans rfl
   have f4:w9.cell? ⟨gl,4,none⟩=some (.slice A4 l.l4.length c4):=(blk_cell BKL.out 4).trans rfl
   have f5:w9.cell? ⟨gl,5,none⟩=some (.slice A5 l.l5.length c5):=(blk_cell BKL.out 5).trans rfl
   have HDE3:=Aside0.mk (show de=if bp then 0 else 2 by rw [HDE2.out];rfl)
   cases bp with
   |false=>
    have HE2:=Aside0.mk (show de=2 by rw [HDE3.out];rfl)
    have HV2:=Aside0.mk (show dv= []by rw [HDV.out,HE2.out];rfl)
    go_wp2_with (first|(go_at_call 74;go_must (refine(L_isPlace.calls ⟨A1,c1,A2,c2,A3,c3,A4,c4,A5,c5⟩ l B cB place _ (HR.out.below HB.out) (valid_of HF.out).shelf3 (valid_of HF.out).cake5 (Kd.C_below HPR.out HB.out)).mono ?_;rw [←HPB.out];clear f0 f1 f2 f3 f4 f5;rintro e wP ⟨rfl,hbe⟩;replace BKL:=Aside0.mk (blk_below BKL.out hbe);replace BK9:=Aside0.mk (blk_below BK9.out hbe);replace HB:=Aside0.mk (below_step HB.out hbe);clear hbe)))
    go_ret2
    exact⟨_,by rw [HE2.out];rfl,by rw [HV2.out];exact Kd.R_nil _ _ _ _ _,HB.out⟩
   |true=>
    have HE2:=Aside0.mk (show de=0 by rw [HDE3.out];rfl)
    have HV2:=Aside0.mk (show dv=l.playRows place ns place.length by rw [HDV.out,if_pos HE2.out])
    have HPL:=Aside0.mk (of_decide_eq_true HPB.out.symm:l.isPlace place)
    have HIL:=Aside0.mk (of_decide_eq_true HLB.out.symm:l.isListed ta tw)
    have HNUM:=Aside0.mk (show Num ns by rw [HNS.out];exact num_listed (valid_of HF.out) HIL.out)
    have pl5:place.length≤5:=by rw [HPL.out.1];exact(valid_of HF.out).cake5
    go_wp2_with (first|(go_at_call 74;go_must (refine(L_isPlace.calls ⟨A1,c1,A2,c2,A3,c3,A4,c4,A5,c5⟩ l B cB place _ (HR.out.below HB.out) (valid_of HF.out).shelf3 (valid_of HF.out).cake5 (Kd.C_below HPR.out HB.out)).mono ?_;rw [←HPB.out];clear f0 f1 f2 f3 f4 f5;rintro e wP ⟨rfl,hbe⟩;replace BKL:=Aside0.mk (blk_below BKL.out hbe);replace BK9:=Aside0.mk (blk_below BK9.out hbe);replace HB:=Aside0.mk (below_step HB.out hbe);clear hbe)))
    go_loopw [11,35] (fun v11 v35 wr=>∃i:Nat,v35= .int .i64 (i:Int)∧i≤place.length∧Aside0 (Kd.R kL 25 wr w.heap.size (fun _=>True) v11 (l.playRows place ns i))∧Aside0 (wr.heap[gl]? =some (.cells #[.int .i64 l.a0,.slice A1 l.l1.length c1,.slice A2 l.l2.length c2,.slice A3 l.l3.length c3,.slice A4 l.l4.length c4,.slice A5 l.l5.length c5] 39 (0,0)))∧Aside0 (wr.heap[g9]? =some (.cells (lit11 ns) 147 (0,0)))∧Aside0 (Below w.heap.size w wr)) (fun _ v35 _=>(place.length-intOf v35).toNat)
    case atStart=>exact⟨0,rfl,Nat.zero_le _,⟨Kd.R_nil _ _ _ _ _⟩,BKL,BK9,HB⟩
    case round=>
     clear BKL BKT BK9 HB
     obtain⟨i,rfl,hi,HO,BKL,BK9,HB⟩:=hrel
     by_cases hlt:i < place.length
     ·obtain⟨adp,ep,fp⟩:=rowB (Kd.C_below HPR.out HB.out) (i:Int) (by omega) (by omega)
      subst ep
      rw [Int.toNat_natCast]at fp
      have hlti:(i:Int) <(place.length:Int):=by omega
      have hwi:IntKind.i64.wrap ((i:Int)+1)=(i:Int)+1:=IntWalk.i64_in _ (by omega)
      have HSP:=Aside0.mk (place_at HPL.out (i:=(i:Int)) (by omega) (by omega))
      have f0:wr.cell? ⟨gl,0,none⟩=some (.int .i64 l.a0):=(blk_cell BKL.out 0).trans rfl
      have f1:wr.cell? ⟨gl,1,none⟩=some (.slice A1 l.l1.length c1):=(blk_cell BKL.out 1).trans rfl
      have f2:wr.cell? ⟨gl,2,none⟩=some (.slice A2 l.l2.length c2):=(blk_cell BKL.out 2).trans rfl
      have f3:wr.cell? ⟨gl,3,none⟩=some (.slice A3 l.l3.length c3):=(blk_cell BKL.out 3).trans rfl
      have f4:wr.cell? ⟨gl,4,none⟩=some (.slice A4 l.l4.length c4):=(blk_cell BKL.out 4).trans rfl
      have f5:wr.cell? ⟨gl,5,none⟩=some (.slice A5 l.l5.length c5):=(blk_cell BKL.out 5).trans rfl
      go_wp2_with (first|((with_reducible refine wpList_load_row (o:=⟨some 42,_,_,_,_,_⟩) rfl 147 (.tmp 9) rfl g9 ?_ 147 (lit11 ns) (0,0) (.array 11 3) ?_ ?_ ?_ ?_ ?_);exact rfl;exact BK9.out;exact under147;exact rfl;kernel_rfl)|(go_at_call 94;go_must (refine(L_left.lit ⟨A1,c1,A2,c2,A3,c3,A4,c4,A5,c5⟩ l ns (i:Int) (rd place (i:Int)) wr (HR.out.below HB.out) (leftOk (valid_of HF.out) HNUM.out HSP.out.k0 HSP.out.k1 HSP.out.s0 HSP.out.s1)).mono ?_;clear f0 f1 f2 f3 f4 f5 fp;rintro e wL2 ⟨v0,rfl,ho,hbe⟩;obtain⟨A0,c0,rfl⟩:=Kd.R_slice ho;have hob:∀k,u11.ownBlock=some k→k < wr.heap.size:=(fun k hk=>((Kd.R_bound HO.out).1 k hk).2.2.1);have HOB:=Aside0.mk hob;have HRW:=Aside0.mk ho;have HBE:=Aside0.mk hbe.size;have hws:=Aside0.mk HB.out.size;replace HO:=Aside0.mk (Kd.R_below HO.out hbe);replace BKL:=Aside0.mk (blk_below BKL.out hbe);replace BK9:=Aside0.mk (blk_below BK9.out hbe);replace HB:=Aside0.mk (below_step HB.out hbe);clear hbe ho hob))|((with_reducible refine gate_builtin (b:= .append) (xs:=#[.tmp 40,.tmp 47]) rfl ?_);at_builtin;go_must (refine Kd.R_append kL (w0:=w) w.heap.size rfl (.tmp 40) (.tmp 47) 79 25 (.slice none 0 0) 24 rfl Try.underlying79 info25 rfl (by decide) (by omega) u11 (l.playRows place ns i) (l.left ns (i:Int) (rd place (i:Int))) [.slice A0 (l.left ns (i:Int) (rd place (i:Int))).length c0] (fun _=>True) (fun k=>wr.heap.size≤k) rfl ?aX (slice_M HRW.out hws.out) (fun k hk=>⟨trivial,fun e_=>by have:=HOB.out k e_.symm;omega⟩) (fun _ _=>trivial) HO.out HB.out HB.out.size (by rw [playRows_length];omega) ?_;(case aX=>rfl);intro v17 w12 ho hb hg hat;have hnb:∀k,u11.ownBlock=some k→∃cells,wL2.heap[k]? =some (.cells cells 25 (0,0)):=Kd.R_typed HO.out;replace BKL:=Aside0.mk (blk_grown BKL.out hg (Kd.R_ne HO.out BKL.out (by decide)));replace BK9:=Aside0.mk (blk_grown BK9.out hg (Kd.R_ne HO.out BK9.out (by decide)));have HO2:=Aside0.mk (show Kd.R kL 25 w12 w.heap.size (fun _=>True) v17 (l.playRows place ns (i+1))by rw [playRows_succ];exact ho);replace HB:=Aside0.mk hb;clear ho hb hg hat HO)))
      go_roundw
      case measure=>simp [intOf];omega
      case rel=>exact⟨i+1,by simp,by omega,HO2,BKL,BK9,HB⟩
     ·have hie:i=place.length:=by omega
      subst hie
      have hlti:(place.length:Int)≤(place.length:Int):=Int.le_refl _
      go_wp2
      go_ret2
      exact⟨_,by rw [HE2.out];rfl,by rw [HV2.out];exact HO.out,HB.out⟩
 ·have hzb:(l.fault !=0)=true:=by rw [←HER.out];simpa using hz
  have HE2:=Aside0.mk (show de=er by rw [HDE.out,if_pos hz])
  have HV2:=Aside0.mk (show dv= []by rw [HDV.out,HE2.out,if_neg hz])
  clear hz
  go_wp2_with (first|((with_reducible refine gate_dst (N:=3) rfl ?_);refine box_event ?hg (N:=3) ?hd (cs:=#[.int .i64 l.a0,.slice A1 l.l1.length c1,.slice A2 l.l2.length c2,.slice A3 l.l3.length c3,.slice A4 l.l4.length c4,.slice A5 l.l5.length c5]) (t:=39) ?hr ?_;(case hd=>rfl);(case hg=>rfl);(case hr=>first|(go_simp;done)|(go_simp;rfl));intro gl hg_ w2 hbx_ hb_;have BKL:=Aside0.mk hbx_;have glge:w.heap.size≤gl:=(by have:=below_size HB.out;omega);have glGE:=Aside0.mk glge;clear glge;have HBn:=Aside0.mk (below_step HB.out hb_);clear HB hg_ hb_ hbx_;have HB:=HBn;clear HBn)|((with_reducible refine gate_dst (N:=5) rfl ?_);refine box_event ?hg (N:=5) ?hd (cs:=#[.slice TA ta.length ca,.slice TB tw.length cb]) (t:=82) ?hr ?_;(case hd=>rfl);(case hg=>rfl);(case hr=>first|(go_simp;done)|(go_simp;rfl));intro gt hg_ w3 hbx_ hb_;have BKT:=Aside0.mk hbx_;have gtge:w.heap.size≤gt:=(by have:=below_size HB.out;omega);have gtGE:=Aside0.mk gtge;clear gtge;have HBn:=Aside0.mk (below_step HB.out hb_);have z_:=Aside0.mk (blk_below BKL.out hb_);clear BKL;have BKL:=z_;clear z_;clear HB hg_ hb_ hbx_;have HB:=HBn;clear HBn;have f0:w3.cell? ⟨gl,0,none⟩=some (.int .i64 l.a0):=(blk_cell BKL.out 0).trans rfl;have f1:w3.cell? ⟨gl,1,none⟩=some (.slice A1 l.l1.length c1):=(blk_cell BKL.out 1).trans rfl;have f2:w3.cell? ⟨gl,2,none⟩=some (.slice A2 l.l2.length c2):=(blk_cell BKL.out 2).trans rfl;have f3:w3.cell? ⟨gl,3,none⟩=some (.slice A3 l.l3.length c3):=(blk_cell BKL.out 3).trans rfl;have f4:w3.cell? ⟨gl,4,none⟩=some (.slice A4 l.l4.length c4):=(blk_cell BKL.out 4).trans rfl;have f5:w3.cell? ⟨gl,5,none⟩=some (.slice A5 l.l5.length c5):=(blk_cell BKL.out 5).trans rfl)|(go_at_call 56;go_must (refine(CheckLoft.call ⟨A1,c1,A2,c2,A3,c3,A4,c4,A5,c5⟩ l _ (HR.out.below HB.out)).mono ?_;clear f0 f1 f2 f3 f4 f5;rintro e wE ⟨rfl,hbe⟩;replace BKL:=Aside0.mk (blk_below BKL.out hbe);replace BKT:=Aside0.mk (blk_below BKT.out hbe);replace HB:=Aside0.mk (below_step HB.out hbe);clear hbe;have f0:wE.cell? ⟨gl,0,none⟩=some (.int .i64 l.a0):=(blk_cell BKL.out 0).trans rfl;have f1:wE.cell? ⟨gl,1,none⟩=some (.slice A1 l.l1.length c1):=(blk_cell BKL.out 1).trans rfl;have f2:wE.cell? ⟨gl,2,none⟩=some (.slice A2 l.l2.length c2):=(blk_cell BKL.out 2).trans rfl;have f3:wE.cell? ⟨gl,3,none⟩=some (.slice A3 l.l3.length c3):=(blk_cell BKL.out 3).trans rfl;have f4:wE.cell? ⟨gl,4,none⟩=some (.slice A4 l.l4.length c4):=(blk_cell BKL.out 4).trans rfl;have f5:wE.cell? ⟨gl,5,none⟩=some (.slice A5 l.l5.length c5):=(blk_cell BKL.out 5).trans rfl;have t0:wE.cell? ⟨gt,0,none⟩=some (.slice TA ta.length ca):=(blk_cell BKT.out 0).trans rfl;have t1:wE.cell? ⟨gt,1,none⟩=some (.slice TB tw.length cb):=(blk_cell BKT.out 1).trans rfl)))
  go_ret2
  exact⟨_,by rw [HE2.out,HER.out];rfl,by rw [HV2.out];exact Kd.R_nil _ _ _ _ _,HB.out⟩
end Go.Proofs.Ytjifalohjlihaaa.Q
end
section
namespace Go.Proofs.Ytjifalohjlihaaa.Q
set_option linter.unusedVariables false
open Go.BigFrame Go.RowKit Go.Shelf Go.Proofs.YtjifalohjlihaaaW.PrintWords Go.Proofs.YtjifalohjlihaaaW.PrintLast Go.Proofs.YtjifalohjlihaaaW.PrintMore
theorem flat_at {α:Type} {enc:α→List Value} {s:Nat} (hs:∀x,(enc x).length=s):∀(xs:List α) (j:Nat) (p:α) (i:Nat) (u:Value),xs[j]? =some p→(enc p)[i]? =some u→(xs.flatMap enc)[j*s+i]? =some u:=by
 intro xs
 induction xs with
 |nil=>intro j p i u h;simp at h
 |cons x t ih=>
  intro j p i u h hu
  rw [List.flatMap_cons]
  have hi:=(List.getElem?_eq_some_iff.1 hu).1
  rw [hs]at hi
  cases j with
  |zero=>
   rw [List.getElem?_cons_zero]at h
   obtain rfl:=Option.some.inj h
   rw [List.getElem?_append_left (by rw [hs];omega),Nat.zero_mul,Nat.zero_add];exact hu
  |succ j=>
   rw [List.getElem?_cons_succ]at h
   rw [List.getElem?_append_right (by rw [hs,Nat.succ_mul];omega),hs,show(j+1)*s+i-s=j*s+i by rw [Nat.succ_mul];omega]
   exact ih j p i u h hu
theorem row_C {α:Type} {d:Kd α} {enc:α→List Value} (hK:∀w x,d.K w x (enc x)) {w:World} {g:Nat} {xs:List α} {t:TypeId} {cs:Array Value} (h:w.heap[g]? =some (.cells cs t (0,0))) (hc:cs=(xs.flatMap enc).toArray) (hl:xs.length≤1000):Kd.C d w (some ⟨g,0,none⟩) xs.length xs:=by
 refine⟨rfl,by omega,fun _=>⟨⟨g,0,none⟩,rfl,fun j p hp=>⟨enc p,d.K_len (hK w p),hK w p,fun i u hu=> ?_⟩⟩⟩
 have h2:=flat_at (fun x=>d.K_len (hK w x)) xs j p i u hp hu
 have h3:=blk_cell h (j*d.sz+i)
 rw [hc,List.getElem?_toArray,h2]at h3
 have e:(⟨g,0,none⟩:Addr).add (j*d.sz+i)=⟨g,j*d.sz+i,none⟩:=by unfold Addr.add;split<;>simp_all
 rw [e];exact h3
def encR (x:S56):List Value:= [.int .i64 x.f0,.int .i64 x.f1]
def encB (x:S135):List Value:= [.int .i64 x.f0,.int .i64 x.f1]
def encC (x:S126):List Value:= [.int .i64 x.f0,.int .i64 x.f1.f0,.int .i64 x.f1.f1,.int .i64 x.f2]
def encW (x:S137):List Value:= [.int .i64 x.f0,.int .i64 x.f1,.int .i64 x.f2.f0,.int .i64 x.f2.f1]
def encI (x:Int):List Value:= [.int .i64 x]
def twoL (room:Int) (k:Nat):SL where
 a0:=3
 l1:= [⟨2,3⟩,⟨1,1⟩,⟨2,4⟩,⟨3,3⟩]
 l2:= [⟨room,2⟩,⟨2,0⟩]
 l3:= [⟨0,⟨6,7⟩,3⟩,⟨1,⟨5,5⟩,3⟩]
 l4:= [0,1]
 l5:= [(⟨1,2,⟨0,0⟩⟩:S137),⟨0,0,⟨0,0⟩⟩].take k
set_option maxRecDepth 100000 in
set_option maxHeartbeats 6400000 in
theorem two_calls (room:Int) (k:Nat) (hk:k≤2) (w:World):
  Calls Try.prog 69 #[.int .i64 room,.int .i64 (k:Int)] w fun e w'=>∃x:SA,e= .returned (.agg (x.cells (twoL room k)))∧Rd w' x (twoL room k)∧Below w.heap.size w w':=by
 have HB:=Aside0.mk (Below.refl w.heap.size w)
 go_enter Try.func69,Try.ntmps69
 go_upto_region 2 with(fail)
 obtain⟨gr,hgr⟩:∃g,g=w.heap.size:=⟨_,rfl⟩
 obtain⟨gw,hgw⟩:∃g,g=w.heap.size+1:=⟨_,rfl⟩
 obtain⟨w2,hw2⟩:∃w_,w_=World.alloc (World.alloc w (Obj.cells #[.int .i64 0,.slice none 0 0,.slice none 0 0,.slice none 0 0,.slice none 0 0,.slice none 0 0] 39 (0,0))) (Obj.cells #[.int .i64 1,.int .i64 2,.int .i64 0,.int .i64 0,.int .i64 0,.int .i64 0,.int .i64 0,.int .i64 0] 137 (0,0)):=⟨_,rfl⟩
 have BR:w2.heap[gr]? =some (.cells #[.int .i64 0,.slice none 0 0,.slice none 0 0,.slice none 0 0,.slice none 0 0,.slice none 0 0] 39 (0,0)):=by rw [hw2,hgr];exact blk_alloc (blk_new _ _) _
 have BW:w2.heap[gw]? =some (.cells #[.int .i64 1,.int .i64 2,.int .i64 0,.int .i64 0,.int .i64 0,.int .i64 0,.int .i64 0,.int .i64 0] 137 (0,0)):=by
  have h_:=blk_new (World.alloc w (Obj.cells #[.int .i64 0,.slice none 0 0,.slice none 0 0,.slice none 0 0,.slice none 0 0,.slice none 0 0] 39 (0,0))) (Obj.cells #[.int .i64 1,.int .i64 2,.int .i64 0,.int .i64 0,.int .i64 0,.int .i64 0,.int .i64 0,.int .i64 0] 137 (0,0))
  rw [World.size_alloc]at h_
  rw [hw2,hgw];exact h_
 have hb2:Below w.heap.size w w2:=by rw [hw2];exact below_alloc (below_alloc (Below.refl _ _) _) _
 rw [←hw2,←hgw,←hgr]
 have hki:(k:Int)≤2:=by omega
 have hgrle:w.heap.size≤gr:=by omega
 have hgwle:w.heap.size≤gw:=by omega
 have hne:gw≠gr:=by omega
 clear hw2 hgw hgr
 refine wp_open 19 _ (fun v=> {tmps:=#[.int .i64 room,.int .i64 (k:Int),undef,undef,.pointer (some ⟨gr,0,none⟩),.slice (some ⟨gw,0,none⟩) 2 2,.agg #[.int .i64 1,.int .i64 2,.int .i64 0,.int .i64 0],.agg #[.int .i64 0,.int .i64 0,.int .i64 0,.int .i64 0],.slice (some ⟨gw,0,none⟩) 2 2,v 0,v 1,v 2,v 3,v 4,v 5,v 6,v 7,v 8,v 9,v 10,v 11,v 12,v 13,v 14,v 15,v 16,v 17,v 18],defers:= []}) (fun _=>undef) (fun j x w=>match j with
  |0=>x= .agg #[.int .i64 2,.int .i64 3]
  |1=>x= .agg #[.int .i64 1,.int .i64 1]
  |2=>x= .agg #[.int .i64 2,.int .i64 4]
  |3=>x= .agg #[.int .i64 3,.int .i64 3]
  |4=>∃g,x= .slice (some ⟨g,0,none⟩) 4 4∧w.heap[g]? =some (.cells #[.int .i64 2,.int .i64 3,.int .i64 1,.int .i64 1,.int .i64 2,.int .i64 4,.int .i64 3,.int .i64 3] 56 (0,0))
  |5=>x= .int .i64 room
  |6=>x= .agg #[.int .i64 room,.int .i64 2]
  |7=>x= .agg #[.int .i64 2,.int .i64 0]
  |8=>∃g,x= .slice (some ⟨g,0,none⟩) 2 2∧w.heap[g]? =some (.cells #[.int .i64 room,.int .i64 2,.int .i64 2,.int .i64 0] 135 (0,0))
  |9=>x= .agg #[.int .i64 6,.int .i64 7]
  |10=>x= .agg #[.int .i64 0,.int .i64 6,.int .i64 7,.int .i64 3]
  |11=>x= .agg #[.int .i64 5,.int .i64 5]
  |12=>x= .agg #[.int .i64 1,.int .i64 5,.int .i64 5,.int .i64 3]
  |13=>∃g,x= .slice (some ⟨g,0,none⟩) 2 2∧w.heap[g]? =some (.cells #[.int .i64 0,.int .i64 6,.int .i64 7,.int .i64 3,.int .i64 1,.int .i64 5,.int .i64 5,.int .i64 3] 126 (0,0))
  |14=>∃g,x= .slice (some ⟨g,0,none⟩) 2 2∧w.heap[g]? =some (.cells #[.int .i64 0,.int .i64 1] 3 (0,0))
  |15=>x= .slice (some ⟨gw,0,none⟩) 2 2
  |16=>x= .int .i64 (k:Int)
  |17=>x= .slice (some ⟨gw,0,none⟩) k 2
  |18=>∃g1 g2 g3 g4,x= .agg #[.int .i64 3,.slice (some ⟨g1,0,none⟩) 4 4,.slice (some ⟨g2,0,none⟩) 2 2,.slice (some ⟨g3,0,none⟩) 2 2,.slice (some ⟨g4,0,none⟩) 2 2,.slice (some ⟨gw,0,none⟩) k 2]∧w.heap[g1]? =some (.cells #[.int .i64 2,.int .i64 3,.int .i64 1,.int .i64 1,.int .i64 2,.int .i64 4,.int .i64 3,.int .i64 3] 56 (0,0))∧w.heap[g2]? =some (.cells #[.int .i64 room,.int .i64 2,.int .i64 2,.int .i64 0] 135 (0,0))∧w.heap[g3]? =some (.cells #[.int .i64 0,.int .i64 6,.int .i64 7,.int .i64 3,.int .i64 1,.int .i64 5,.int .i64 5,.int .i64 3] 126 (0,0))∧w.heap[g4]? =some (.cells #[.int .i64 0,.int .i64 1] 3 (0,0))
  |_=>True) (fun X=>Below w2.heap.size w2 X) (by kernel_rfl) rfl rfl (by kernel_rfl) rfl (below_drew1 (Below.refl _ _)) ?_ ?_ ?_
 ·intro j hj x W W' hb h
  obtain rfl|rfl|rfl|rfl|rfl|rfl|rfl|rfl|rfl|rfl|rfl|rfl|rfl|rfl|rfl|rfl|rfl|rfl|rfl:j=0∨j=1∨j=2∨j=3∨j=4∨j=5∨j=6∨j=7∨j=8∨j=9∨j=10∨j=11∨j=12∨j=13∨j=14∨j=15∨j=16∨j=17∨j=18:=by omega
  all_goals first
   |exact h
   |(obtain⟨g,e,h1⟩:=h;exact⟨g,e,blk_below h1 hb⟩)
   |(obtain⟨g1,g2,g3,g4,e,h1,h2,h3,h4⟩:=h;exact⟨g1,g2,g3,g4,e,blk_below h1 hb,blk_below h2 hb,blk_below h3 hb,blk_below h4 hb⟩)
 ·intro i hi
  obtain rfl|rfl|rfl|rfl|rfl|rfl|rfl|rfl|rfl|rfl|rfl|rfl|rfl|rfl|rfl|rfl|rfl|rfl|rfl:i=0∨i=1∨i=2∨i=3∨i=4∨i=5∨i=6∨i=7∨i=8∨i=9∨i=10∨i=11∨i=12∨i=13∨i=14∨i=15∨i=16∨i=17∨i=18:=by omega
  ·intro v w hB hj K hK
   refine wpOp_step (i:=0) (by rfl) (fun K' hK'=> ?_)
   refine goes_ Try.func71 (by kernel_rfl) rfl #[.int .i64 2,.int .i64 3] (by rfl) rfl rfl (by(try simp only [List.map_toArray,List.map_cons,List.map_nil]);rfl) ?_
   refine(anillaw06_between.calls 2 3 2 3 w rfl).mono ?_
   rintro e w' ⟨rfl,hb⟩
   exact⟨_,rfl,hK' _ _ (hK _ _ rfl (below_step hB hb) hb)⟩
  ·intro v w hB hj K hK
   refine wpOp_step (i:=1) (by rfl) (fun K' hK'=> ?_)
   refine goes_ Try.func71 (by kernel_rfl) rfl #[.int .i64 1,.int .i64 1] (by rfl) rfl rfl (by(try simp only [List.map_toArray,List.map_cons,List.map_nil]);rfl) ?_
   refine(anillaw06_between.calls 1 1 1 1 w rfl).mono ?_
   rintro e w' ⟨rfl,hb⟩
   exact⟨_,rfl,hK' _ _ (hK _ _ rfl (below_step hB hb) hb)⟩
  ·intro v w hB hj K hK
   refine wpOp_step (i:=2) (by rfl) (fun K' hK'=> ?_)
   refine goes_ Try.func71 (by kernel_rfl) rfl #[.int .i64 2,.int .i64 4] (by rfl) rfl rfl (by(try simp only [List.map_toArray,List.map_cons,List.map_nil]);rfl) ?_
   refine(anillaw06_between.calls 2 4 2 4 w rfl).mono ?_
   rintro e w' ⟨rfl,hb⟩
   exact⟨_,rfl,hK' _ _ (hK _ _ rfl (below_step hB hb) hb)⟩
  ·intro v w hB hj K hK
   refine wpOp_step (i:=3) (by rfl) (fun K' hK'=> ?_)
   refine goes_ Try.func71 (by kernel_rfl) rfl #[.int .i64 3,.int .i64 3] (by rfl) rfl rfl (by(try simp only [List.map_toArray,List.map_cons,List.map_nil]);rfl) ?_
   refine(anillaw06_between.calls 3 3 3 3 w rfl).mono ?_
   rintro e w' ⟨rfl,hb⟩
   exact⟨_,rfl,hK' _ _ (hK _ _ rfl (below_step hB hb) hb)⟩
  ·intro v w hB hj K hK
   have h0:v 0= .agg #[.int .i64 2,.int .i64 3]:=hj 0 (needs_mem (by kernel_rfl))
   have h1:v 1= .agg #[.int .i64 1,.int .i64 1]:=hj 1 (needs_mem (by kernel_rfl))
   have h2:v 2= .agg #[.int .i64 2,.int .i64 4]:=hj 2 (needs_mem (by kernel_rfl))
   have h3:v 3= .agg #[.int .i64 3,.int .i64 3]:=hj 3 (needs_mem (by kernel_rfl))
   refine wpOp_step (i:=4) (by rfl) (fun K' hK'=> ?_)
   refine value_ (w1:= ?_) (v:= ?_) (by rfl) rfl ?_ ?_
   rotate_left 2
   ·go_simp
    constructor
    ·rfl
    ·rfl
   exact hK' _ _ (hK _ _ ⟨_,rfl,blk_new _ _⟩ (below_alloc hB _) (below_alloc (Below.refl _ _) _))
  ·intro v w hB hj K hK
   refine wpOp_step (i:=5) (by rfl) (fun K' hK'=> ?_)
   refine value_ (w1:= ?_) (v:= ?_) (by rfl) rfl ?_ ?_
   rotate_left 2
   ·go_simp
    constructor
    ·rfl
    ·rfl
   exact hK' _ _ (hK _ _ rfl hB (Below.refl _ _))
  ·intro v w hB hj K hK
   have h5:v 5= .int .i64 room:=hj 5 (needs_mem (by kernel_rfl))
   refine wpOp_step (i:=6) (by rfl) (fun K' hK'=> ?_)
   refine value_ (w1:= ?_) (v:= ?_) (by rfl) rfl ?_ ?_
   rotate_left 2
   ·go_simp
    constructor
    ·rfl
    ·rfl
   exact hK' _ _ (hK _ _ rfl hB (Below.refl _ _))
  ·intro v w hB hj K hK
   refine wpOp_step (i:=7) (by rfl) (fun K' hK'=> ?_)
   refine value_ (w1:= ?_) (v:= ?_) (by rfl) rfl ?_ ?_
   rotate_left 2
   ·go_simp
    constructor
    ·rfl
    ·rfl
   exact hK' _ _ (hK _ _ rfl hB (Below.refl _ _))
  ·intro v w hB hj K hK
   have h6:v 6= .agg #[.int .i64 room,.int .i64 2]:=hj 6 (needs_mem (by kernel_rfl))
   have h7:v 7= .agg #[.int .i64 2,.int .i64 0]:=hj 7 (needs_mem (by kernel_rfl))
   refine wpOp_step (i:=8) (by rfl) (fun K' hK'=> ?_)
   refine value_ (w1:= ?_) (v:= ?_) (by rfl) rfl ?_ ?_
   rotate_left 2
   ·go_simp
    constructor
    ·rfl
    ·rfl
   exact hK' _ _ (hK _ _ ⟨_,rfl,blk_new _ _⟩ (below_alloc hB _) (below_alloc (Below.refl _ _) _))
  ·intro v w hB hj K hK
   refine wpOp_step (i:=9) (by rfl) (fun K' hK'=> ?_)
   refine goes_ Try.func71 (by kernel_rfl) rfl #[.int .i64 6,.int .i64 7] (by rfl) rfl rfl (by(try simp only [List.map_toArray,List.map_cons,List.map_nil]);rfl) ?_
   refine(anillaw06_between.calls 6 7 6 7 w rfl).mono ?_
   rintro e w' ⟨rfl,hb⟩
   exact⟨_,rfl,hK' _ _ (hK _ _ rfl (below_step hB hb) hb)⟩
  ·intro v w hB hj K hK
   have h9:v 9= .agg #[.int .i64 6,.int .i64 7]:=hj 9 (needs_mem (by kernel_rfl))
   refine wpOp_step (i:=10) (by rfl) (fun K' hK'=> ?_)
   refine value_ (w1:= ?_) (v:= ?_) (by rfl) rfl ?_ ?_
   rotate_left 2
   ·go_simp
    constructor
    ·rfl
    ·rfl
   exact hK' _ _ (hK _ _ rfl hB (Below.refl _ _))
  ·intro v w hB hj K hK
   refine wpOp_step (i:=11) (by rfl) (fun K' hK'=> ?_)
   refine goes_ Try.func71 (by kernel_rfl) rfl #[.int .i64 5,.int .i64 5] (by rfl) rfl rfl (by(try simp only [List.map_toArray,List.map_cons,List.map_nil]);rfl) ?_
   refine(anillaw06_between.calls 5 5 5 5 w rfl).mono ?_
   rintro e w' ⟨rfl,hb⟩
   exact⟨_,rfl,hK' _ _ (hK _ _ rfl (below_step hB hb) hb)⟩
  ·intro v w hB hj K hK
   have h11:v 11= .agg #[.int .i64 5,.int .i64 5]:=hj 11 (needs_mem (by kernel_rfl))
   refine wpOp_step (i:=12) (by rfl) (fun K' hK'=> ?_)
   refine value_ (w1:= ?_) (v:= ?_) (by rfl) rfl ?_ ?_
   rotate_left 2
   ·go_simp
    constructor
    ·rfl
    ·rfl
   exact hK' _ _ (hK _ _ rfl hB (Below.refl _ _))
  ·intro v w hB hj K hK
   have h10:v 10= .agg #[.int .i64 0,.int .i64 6,.int .i64 7,.int .i64 3]:=hj 10 (needs_mem (by kernel_rfl))
   have h12:v 12= .agg #[.int .i64 1,.int .i64 5,.int .i64 5,.int .i64 3]:=hj 12 (needs_mem (by kernel_rfl))
   refine wpOp_step (i:=13) (by rfl) (fun K' hK'=> ?_)
   refine value_ (w1:= ?_) (v:= ?_) (by rfl) rfl ?_ ?_
   rotate_left 2
   ·go_simp
    constructor
    ·rfl
    ·rfl
   exact hK' _ _ (hK _ _ ⟨_,rfl,blk_new _ _⟩ (below_alloc hB _) (below_alloc (Below.refl _ _) _))
  ·intro v w hB hj K hK
   refine wpOp_step (i:=14) (by rfl) (fun K' hK'=> ?_)
   refine value_ (w1:= ?_) (v:= ?_) (by rfl) rfl ?_ ?_
   rotate_left 2
   ·go_simp
    constructor
    ·rfl
    ·rfl
   exact hK' _ _ (hK _ _ ⟨_,rfl,blk_new _ _⟩ (below_alloc hB _) (below_alloc (Below.refl _ _) _))
  ·intro v w hB hj K hK
   refine wpOp_step (i:=15) (by rfl) (fun K' hK'=> ?_)
   refine value_ (w1:= ?_) (v:= ?_) (by rfl) rfl ?_ ?_
   rotate_left 2
   ·go_simp
    constructor
    ·rfl
    ·rfl
   exact hK' _ _ (hK _ _ rfl hB (Below.refl _ _))
  ·intro v w hB hj K hK
   refine wpOp_step (i:=16) (by rfl) (fun K' hK'=> ?_)
   refine value_ (w1:= ?_) (v:= ?_) (by rfl) rfl ?_ ?_
   rotate_left 2
   ·go_simp
    constructor
    ·rfl
    ·rfl
   exact hK' _ _ (hK _ _ rfl hB (Below.refl _ _))
  ·intro v w hB hj K hK
   have h15:v 15= .slice (some ⟨gw,0,none⟩) 2 2:=hj 15 (needs_mem (by kernel_rfl))
   have h16:v 16= .int .i64 (k:Int):=hj 16 (needs_mem (by kernel_rfl))
   refine wpOp_step (i:=17) (by rfl) (fun K' hK'=> ?_)
   refine value_ (w1:= ?_) (v:= ?_) (by rfl) rfl ?_ ?_
   rotate_left 2
   ·go_simp
    constructor
    ·rfl
    ·rfl
   exact hK' _ _ (hK _ _ rfl hB (Below.refl _ _))
  ·intro v w hB hj K hK
   obtain⟨g4,h4,b4⟩:=hj 4 (needs_mem (by kernel_rfl))
   obtain⟨g8,h8,b8⟩:=hj 8 (needs_mem (by kernel_rfl))
   obtain⟨g13,h13,b13⟩:=hj 13 (needs_mem (by kernel_rfl))
   obtain⟨g14,h14,b14⟩:=hj 14 (needs_mem (by kernel_rfl))
   have h17:v 17= .slice (some ⟨gw,0,none⟩) k 2:=hj 17 (needs_mem (by kernel_rfl))
   refine wpOp_step (i:=18) (by rfl) (fun K' hK'=> ?_)
   refine value_ (w1:= ?_) (v:= ?_) (by rfl) rfl ?_ ?_
   rotate_left 2
   ·go_simp
    constructor
    ·rfl
    ·rfl
   exact hK' _ _ (hK _ _ ⟨g4,g8,g13,g14,rfl,b4,b8,b13,b14⟩ hB (Below.refl _ _))
 ·intro v W hB hj K hK
  obtain⟨g1,g2,g3,g4,h18,b1,b2,b3,b4⟩:=hj 18 (needs_mem (by kernel_rfl))
  have c1_:=blk_below BR hB
  have c2_:=blk_below BW hB
  refine wpOp_step (i:=19) (by rfl) (fun K' hK'=> ?_)
  rw [if_pos (by rfl)]
  refine wp_store_row 39 (.tmp 4) (.tmp 27) rfl gr #[.int .i64 3,.slice (some ⟨g1,0,none⟩) 4 4,.slice (some ⟨g2,0,none⟩) 2 2,.slice (some ⟨g3,0,none⟩) 2 2,.slice (some ⟨g4,0,none⟩) 2 2,.slice (some ⟨gw,0,none⟩) k 2] rfl h18 39 _ c1_ (by kernel_rfl) rfl (by simp [Value.oneCell']) ?_
  refine hK' _ _ (hK _ _ ?_)
  obtain⟨w9,hw9⟩:∃w_,w_=W.setRow gr #[.int .i64 3,.slice (some ⟨g1,0,none⟩) 4 4,.slice (some ⟨g2,0,none⟩) 2 2,.slice (some ⟨g3,0,none⟩) 2 2,.slice (some ⟨g4,0,none⟩) 2 2,.slice (some ⟨gw,0,none⟩) k 2]:=⟨_,rfl⟩
  have H9:=Aside0.mk (show w9.heap[gr]? =some (.cells #[.int .i64 3,.slice (some ⟨g1,0,none⟩) 4 4,.slice (some ⟨g2,0,none⟩) 2 2,.slice (some ⟨g3,0,none⟩) 2 2,.slice (some ⟨g4,0,none⟩) 2 2,.slice (some ⟨gw,0,none⟩) k 2] 39 (0,0))by rw [hw9];exact setRow_heap W gr _ _ _ _ c1_)
  have HB9:=Aside0.mk (show Below w.heap.size w w9 by rw [hw9];exact below_setRow (below_step hb2 hB) hgrle _)
  have far:∀ {g:Nat} {cs:Array Value} {t:TypeId},W.heap[g]? =some (.cells cs t (0,0))→g≠gr→w9.heap[g]? =some (.cells cs t (0,0)):=fun h hn=>by rw [hw9,setRow_other W gr _ _ hn];exact h
  have D1:=Aside0.mk (far b1 (blk_ne b1 c1_ (by decide)))
  have D2:=Aside0.mk (far b2 (blk_ne b2 c1_ (by decide)))
  have D3:=Aside0.mk (far b3 (blk_ne b3 c1_ (by decide)))
  have D4:=Aside0.mk (far b4 (blk_ne b4 c1_ (by decide)))
  have D5:=Aside0.mk (far c2_ hne)
  rw [←hw9]
  clear hw9 far b1 b2 b3 b4 c1_ c2_ hB hj K' hK' hK K BR BW hb2
  go_wp2
  refine bodyPost_ret (results_cell_row rfl _ _ gr 39 _ (0,0) _ rfl H9.out Try.underlying39 rfl (by kernel_rfl)) rfl ?_
  have h5:(twoL room k).l5.length=k:=by unfold twoL;rw [List.length_take];simp;omega
  refine⟨⟨some ⟨g1,0,none⟩,4,some ⟨g2,0,none⟩,2,some ⟨g3,0,none⟩,2,some ⟨g4,0,none⟩,2,some ⟨gw,0,none⟩,2⟩,?_,⟨?_,?_,?_,?_,?_,Nat.le_refl _,Nat.le_refl _,Nat.le_refl _,Nat.le_refl _,by rw [h5];exact hk⟩,HB9.out⟩
  ·unfold SA.cells
   rw [h5];rfl
  ·exact row_C (enc:=encR) k56_mk D1.out rfl (show 4≤1000 by decide)
  ·exact row_C (enc:=encB) k135_mk D2.out rfl (show 2≤1000 by decide)
  ·exact row_C (enc:=encC) k126_mk D3.out rfl (show 2≤1000 by decide)
  ·exact row_C (enc:=encI) (fun _ _=>rfl) D4.out rfl (show 2≤1000 by decide)
  ·exact Kd.C_take (row_C (enc:=encW) k137_mk (xs:= [⟨1,2,⟨0,0⟩⟩,⟨0,0,⟨0,0⟩⟩]) D5.out rfl (by decide)) hk
end Go.Proofs.Ytjifalohjlihaaa.Q
end
section
namespace Go.Proofs.Ytjifalohjlihaaa.Q
set_option linter.unusedVariables false
open Go.BigFrame Go.RowKit Go.Shelf Go.Proofs.YtjifalohjlihaaaW.PrintWords Go.Proofs.YtjifalohjlihaaaW.PrintLast Go.Proofs.YtjifalohjlihaaaW.PrintMore
def SL.bestFrom (l:SL):Nat→Int→Option (List Int×Int)
 |0,_=>none
 |k+1,d=>(l.placeBy d).elim (l.bestFrom k (d+1)) fun q=>some (q,d)
def SL.bestErr (l:SL):Int:=if l.err true≠0 then l.err true else if l.bestFrom (l.a0+1).toNat 0=none then 10 else 0
def SL.bestOf (l:SL):List Int×Int:=if l.bestErr=0 then(l.bestFrom (l.a0+1).toNat 0).getD ([],0)else([],0)
set_option maxRecDepth 100000 in
set_option maxHeartbeats 6400000 in
theorem Best.calls (x:SA) (l:SL) (w:World) (hr:Rd w x l):
  Calls Try.prog 59 #[.agg (x.cells l)] w fun e w'=>∃v,e= .returned (.tuple #[v,.int .i64 l.bestOf.2,.int .i64 l.bestErr])∧Kd.R (Kd.int .i64) 3 w' w.heap.size (fun _=>True) v l.bestOf.1∧Below w.heap.size w w':=by
 obtain⟨A1,c1,A2,c2,A3,c3,A4,c4,A5,c5⟩:=x
 have HB:=Aside0.mk (Below.refl w.heap.size w)
 have HR:=Aside0.mk hr
 obtain⟨er,her⟩:∃er,er=l.err true:=⟨_,rfl⟩
 obtain⟨dv,hdv⟩:∃dv,dv=l.bestOf:=⟨_,rfl⟩
 obtain⟨de,hde⟩:∃de,de=l.bestErr:=⟨_,rfl⟩
 rw [←hdv,←hde]
 have HDE:=Aside0.mk (show de=if er≠0 then er else if l.bestFrom (l.a0+1).toNat 0=none then 10 else 0 by rw [hde,her];rfl)
 have HDV:=Aside0.mk (show dv=if de=0 then(l.bestFrom (l.a0+1).toNat 0).getD ([],0)else([],0)by rw [hdv,hde];rfl)
 have HBV:=Aside0.mk her
 clear hr her hdv hde
 go_enter Try.func59,Try.ntmps59
 by_cases hz:er=0
 ·have hzb:(er !=0)=false:=by rw [hz];rfl
  have HZ:=Aside0.mk hz
  obtain⟨hf0,_,hne0⟩:=err_zero (HBV.out.symm.trans hz)
  have HF:=Aside0.mk hf0
  have HNE:=Aside0.mk hne0
  have la5:=(valid_of hf0).last5
  have la0:=(valid_of hf0).last0
  have hwa:IntKind.i64.wrap (l.a0+1)=l.a0+1:=IntWalk.i64_in _ (by omega)
  clear hz hf0 hne0
  go_wp2_with (first|((with_reducible refine gate_dst (N:=1) rfl ?_);refine box_event ?hg (N:=1) ?hd (cs:=#[.int .i64 l.a0,.slice A1 l.l1.length c1,.slice A2 l.l2.length c2,.slice A3 l.l3.length c3,.slice A4 l.l4.length c4,.slice A5 l.l5.length c5]) (t:=39) ?hr ?_;(case hd=>rfl);(case hg=>rfl);(case hr=>first|(go_simp;done)|(go_simp;rfl));intro g2 hg_ w2 hbx_ hb_;have BK2:=Aside0.mk hbx_;have g2ge:w.heap.size≤g2:=(by have:=below_size HB.out;omega);have g2GE:=Aside0.mk g2ge;clear g2ge;have HBn:=Aside0.mk (below_step HB.out hb_);clear HB hg_ hb_ hbx_;have HB:=HBn;clear HBn;have f0:w2.cell? ⟨g2,0,none⟩=some (.int .i64 l.a0):=(blk_cell BK2.out 0).trans rfl;have f1:w2.cell? ⟨g2,1,none⟩=some (.slice A1 l.l1.length c1):=(blk_cell BK2.out 1).trans rfl;have f2:w2.cell? ⟨g2,2,none⟩=some (.slice A2 l.l2.length c2):=(blk_cell BK2.out 2).trans rfl;have f3:w2.cell? ⟨g2,3,none⟩=some (.slice A3 l.l3.length c3):=(blk_cell BK2.out 3).trans rfl;have f4:w2.cell? ⟨g2,4,none⟩=some (.slice A4 l.l4.length c4):=(blk_cell BK2.out 4).trans rfl;have f5:w2.cell? ⟨g2,5,none⟩=some (.slice A5 l.l5.length c5):=(blk_cell BK2.out 5).trans rfl)|(go_at_call 72;go_must (refine(L_asked.calls ⟨A1,c1,A2,c2,A3,c3,A4,c4,A5,c5⟩ l 109 #[] true w2 (HR.out.below HB.out) (fun _ W _=>always_call W) always_enter).mono ?_;clear f0 f1 f2 f3 f4 f5;rintro e wA hA;have hbA:=hA.1;replace hA:=job_of (HR.out.below HB.out) hA;rw [←HBV.out]at hA;replace BK2:=Aside0.mk (blk_below BK2.out hbA);rcases hA with⟨hz0,rfl,_⟩|⟨hz0,gW,gM,A7,c7,rfl,hJ,hM⟩;exact absurd HZ.out hz0;have J:=Aside0.mk hJ;have HM:=Aside0.mk hM;clear hbA hz0 hJ hM;have fL:wA.cell? ⟨g2,0,none⟩=some (.int .i64 l.a0):=(blk_cell BK2.out 0).trans rfl)))
  clear fL
  go_loopw [20] (fun v20 wr=>∃i:Int,v20= .int .i64 i∧0≤i∧i≤l.a0+1∧Aside0 (l.bestFrom (l.a0+1-i).toNat i=l.bestFrom (l.a0+1).toNat 0)∧Aside0 (Job w2 wr ⟨A1,c1,A2,c2,A3,c3,A4,c4,A5,c5⟩ l gW gM A7 c7)∧Aside0 (l.Days wr gM)) (fun v20 _=>(l.a0+1-intOf v20).toNat)
  case atStart=>exact⟨0,rfl,by omega,by omega,⟨by simp⟩,J,HM⟩
  case round=>
   clear BK2 J HM
   obtain⟨i,rfl,i0,i1,HS,J,HM⟩:=hrel
   by_cases hlt:i < l.a0+1
   ·obtain⟨r,hr⟩:∃r,r=l.placeBy i:=⟨_,rfl⟩
    have HST:=Aside0.mk (show l.bestFrom (l.a0+1).toNat 0=r.elim (l.bestFrom (l.a0+1-(i+1)).toNat (i+1)) fun q=>some (q,i)by
     rw [←HS.out,hr]
     have hk:(l.a0+1-i).toNat=(l.a0+1-(i+1)).toNat+1:=by omega
     rw [hk];rfl)
    have HC:=Aside0.mk (place_calls _ l gW gM A7 c7 i w2 wr J.out HM.out HF.out HNE.out)
    rw [←hr]at HC
    have hwi:IntKind.i64.wrap (i+1)=i+1:=IntWalk.i64_in _ (by omega)
    clear hr HS J HM
    cases r with
    |some q=>
     have hb1:(some q).isSome=true:=rfl
     rw [hb1]at HC
     have HE2:=Aside0.mk (show de=0 by rw [HDE.out,if_neg (by rw [HZ.out];simp),HST.out];simp)
     have HV2:=Aside0.mk (show dv=(q,i)by rw [HDV.out,if_pos HE2.out,HST.out];rfl)
     go_wp2_with (go_at_call 110;go_must (refine HC.out.mono ?_;rintro e wp ⟨v,rfl,hj,hm,hbp,hq⟩))
     go_ret3
     exact⟨v,by rw [HV2.out,HE2.out];rfl,by rw [HV2.out];exact Kd.R_lower (hq q rfl) HB.out.size,below_step HB.out hj.bel⟩
    |none=>
     have hb1:(none:Option (List Int)).isSome=false:=rfl
     rw [hb1]at HC
     go_wp2_with (go_at_call 110;go_must (refine HC.out.mono ?_;rintro e wp ⟨v,rfl,hj,hm,hbp,hq⟩))
     exact⟨⟨i+1,rfl,by omega,by omega,⟨by rw [HST.out];rfl⟩,⟨hj⟩,⟨hm⟩⟩,by simp [intOf];omega⟩
   ·have hie:i=l.a0+1:=by omega
    have hnone:l.bestFrom (l.a0+1).toNat 0=none:=by rw [←HS.out,hie,Int.sub_self];rfl
    have HE2:=Aside0.mk (show de=10 by rw [HDE.out,if_neg (by rw [HZ.out];simp),if_pos hnone])
    have HV2:=Aside0.mk (show dv=([],0)by rw [HDV.out,HE2.out];rfl)
    have HBJ:=Aside0.mk (below_step HB.out J.out.bel)
    clear hie hnone
    go_wp2
    go_ret3
    exact⟨_,by rw [HV2.out,HE2.out];rfl,by rw [HV2.out];exact Kd.R_nil _ _ _ _ _,HBJ.out⟩
 ·have hzb:(er !=0)=true:=by simpa using hz
  have HZ:=Aside0.mk hz
  have HE2:=Aside0.mk (show de=er by rw [HDE.out,if_pos hz])
  have HV2:=Aside0.mk (show dv=([],0)by rw [HDV.out,HE2.out,if_neg hz])
  clear hz
  go_wp2_with (first|((with_reducible refine gate_dst (N:=1) rfl ?_);refine box_event ?hg (N:=1) ?hd (cs:=#[.int .i64 l.a0,.slice A1 l.l1.length c1,.slice A2 l.l2.length c2,.slice A3 l.l3.length c3,.slice A4 l.l4.length c4,.slice A5 l.l5.length c5]) (t:=39) ?hr ?_;(case hd=>rfl);(case hg=>rfl);(case hr=>first|(go_simp;done)|(go_simp;rfl));intro g2 hg_ w2 hbx_ hb_;have BK2:=Aside0.mk hbx_;have g2ge:w.heap.size≤g2:=(by have:=below_size HB.out;omega);have g2GE:=Aside0.mk g2ge;clear g2ge;have HBn:=Aside0.mk (below_step HB.out hb_);clear HB hg_ hb_ hbx_;have HB:=HBn;clear HBn;have f0:w2.cell? ⟨g2,0,none⟩=some (.int .i64 l.a0):=(blk_cell BK2.out 0).trans rfl;have f1:w2.cell? ⟨g2,1,none⟩=some (.slice A1 l.l1.length c1):=(blk_cell BK2.out 1).trans rfl;have f2:w2.cell? ⟨g2,2,none⟩=some (.slice A2 l.l2.length c2):=(blk_cell BK2.out 2).trans rfl;have f3:w2.cell? ⟨g2,3,none⟩=some (.slice A3 l.l3.length c3):=(blk_cell BK2.out 3).trans rfl;have f4:w2.cell? ⟨g2,4,none⟩=some (.slice A4 l.l4.length c4):=(blk_cell BK2.out 4).trans rfl;have f5:w2.cell? ⟨g2,5,none⟩=some (.slice A5 l.l5.length c5):=(blk_cell BK2.out 5).trans rfl)|(go_at_call 72;go_must (refine(L_asked.calls ⟨A1,c1,A2,c2,A3,c3,A4,c4,A5,c5⟩ l 109 #[] true w2 (HR.out.below HB.out) (fun _ W _=>always_call W) always_enter).mono ?_;clear f0 f1 f2 f3 f4 f5;rintro e wA hA;have hbA:=hA.1;replace hA:=job_of (HR.out.below HB.out) hA;rw [←HBV.out]at hA;replace BK2:=Aside0.mk (blk_below BK2.out hbA);rcases hA with⟨hz0,rfl,_⟩|⟨hz0,gW,gM,A7,c7,rfl,hJ,hM⟩;rotate_left;exact absurd hz0 HZ.out;replace HB:=Aside0.mk (below_step HB.out hbA);clear hbA hz0)))
  go_ret3
  exact⟨_,by rw [HV2.out,HE2.out];rfl,by rw [HV2.out];exact Kd.R_nil _ _ _ _ _,HB.out⟩
end Go.Proofs.Ytjifalohjlihaaa.Q
end
section
namespace Go.Proofs.Ytjifalohjlihaaa.Q
set_option linter.unusedVariables false
open Go.BigFrame Go.RowKit Go.Shelf Go.Proofs.YtjifalohjlihaaaW.PrintWords Go.Proofs.YtjifalohjlihaaaW.PrintLast Go.Proofs.YtjifalohjlihaaaW.PrintMore
theorem ex_err:(twoL 1 0).playErr [0,1] [2,1,3,3] [7,5]=0:=by kernel_rfl
theorem ex_play:(twoL 1 0).playOf [0,1] [2,1,3,3] [7,5]= [[3,0,0,0],[4,1,0]]:=by kernel_rfl
theorem ex_leftE:(twoL 1 0).err (decide ((twoL 1 0).isPlace [0,1])&&(twoL 1 0).is 1)=0:=by kernel_rfl
theorem ex_left:(if (twoL 1 0).err (decide ((twoL 1 0).isPlace [0,1])&&(twoL 1 0).is 1)=0 then(twoL 1 0).lefts [0,1] 1 else [])= [⟨4,4⟩,⟨0,2⟩,⟨0,0⟩]:=by kernel_rfl
theorem ex_dryE:(twoL 1 0).err (decide ((twoL 1 0).isPlace [0,1])&&(twoL 1 0).day 1 2)=0:=by kernel_rfl
theorem ex_dry:(if (twoL 1 0).err (decide ((twoL 1 0).isPlace [0,1])&&(twoL 1 0).day 1 2)=0 then(twoL 1 0).dry 1 (rd [0,1] 1) (2-(rd_T126 (twoL 1 0).l3 1).f0)else 0)=3:=by kernel_rfl
theorem ex_day:(twoL 1 0).dayOf [0,1] 0=1:=by kernel_rfl
theorem ex_dayE:(twoL 1 0).dayErr [0,1] 0=0:=by kernel_rfl
theorem ex_stuck:(twoL 1 0).stuckOf [1,0]=0:=by kernel_rfl
theorem ex_stuckE:(twoL 1 0).stuckErr [1,0]=0:=by kernel_rfl
theorem ex_best:(twoL 2 0).bestOf=([0,0],2):=by kernel_rfl
theorem ex_bestE:(twoL 2 0).bestErr=0:=by kernel_rfl
theorem ex_by:(twoL 1 1).byOf 2= [0,1]:=by kernel_rfl
theorem ex_byE:(twoL 1 1).byErr 2=0:=by kernel_rfl
theorem ex_first:(twoL 1 2).firstOf=1:=by kernel_rfl
theorem ex_firstE:(twoL 1 2).firstErr=0:=by kernel_rfl
theorem ex_leave:(twoL 1 2).leaves= [1]:=by kernel_rfl
theorem ex_leaveE:(twoL 1 2).fault=0:=by kernel_rfl
end Go.Proofs.Ytjifalohjlihaaa.Q
end
section
namespace Go.Proofs.Ytjifalohjlihaaa.Q
set_option linter.unusedVariables false
open Go.BigFrame Go.RowKit Go.Shelf Go.Proofs.YtjifalohjlihaaaW.PrintWords Go.Proofs.YtjifalohjlihaaaW.PrintLast Go.Proofs.YtjifalohjlihaaaW.PrintMore
theorem two_at (room kk:Int) (k:Nat) (h:kk=(k:Int)) (hk:k≤2) (w:World):
  Calls Try.prog 69 #[.int .i64 room,.int .i64 kk] w fun e w'=>∃x:SA,e= .returned (.agg (x.cells (twoL room k)))∧Rd w' x (twoL room k)∧Below w.heap.size w w':=by
 subst h;exact two_calls room k hk w
theorem apart_at (w:World):Calls Try.prog 70 #[] w fun e w'=>∃A c,e= .returned (.slice A 2 c)∧2≤c∧Kd.C (Kd.int .i64) w' A 2 [0,1]∧Below w.heap.size w w':=
 (anillaw06_apart.calls [0,1] w rfl).mono (by
  rintro e w' ⟨v,rfl,ho,hb⟩
  obtain⟨A,c,rfl,hl,hC⟩:=Kd.R_reads ho
  exact⟨A,c,rfl,hl,hC,hb⟩)
theorem ints_at (k:Nat) (A:Option Addr) (n c:Nat) (xs:List Int) (B:Option Addr) (m d:Nat) (w:World) (hA:Kd.C (Kd.int .i64) w A n xs) (hc:n≤c) (hB:Kd.C (Kd.int .i64) w B m xs) (hd:m≤d) (h:anillaw06_ints.f k xs xs=some true):
  Calls Try.prog 40 #[.slice A n c,.slice B m d] w fun e w'=>e= .returned (.bool true)∧Below w.heap.size w w':=by
 obtain rfl:=hA.1
 obtain rfl:=hB.1
 exact(anillaw06_ints.calls k A c xs B d xs true w hA hc hB hd h).mono (by
  rintro e w' ⟨rfl,nd,rfl⟩
  exact⟨rfl,pw_below_drewN (Below.refl _ _) nd⟩)
theorem new2 (w:World) (o1 o2:Obj):((w.alloc o1).alloc o2).heap[w.heap.size+1]? =some o2:=by
 have h:=blk_new (w.alloc o1) o2
 rw [World.size_alloc]at h
 exact h
set_option maxRecDepth 100000 in
set_option maxHeartbeats 6400000 in
theorem awake_calls (w:World):Calls Try.prog 20 #[] w fun e w'=>e= .returned (.bool true)∧Below w.heap.size w w':=by
 have HB:=Aside0.mk (Below.refl w.heap.size w)
 go_enter Try.func20,Try.ntmps20
 go_upto_region 2 with(first|(go_at_call 69;go_must (refine(two_at 1 0 0 rfl (by decide) _).mono ?_;rintro e wn_x1 ⟨x1,rfl,hr,hb⟩;replace HB:=Aside0.mk (below_step HB.out hb);clear hb;have HRx1:=Aside0.mk hr;clear hr))|(go_at_call 70;go_must (refine(apart_at _).mono ?_;rintro e wn_a1 ⟨Aa1,ca1,rfl,hca1,hC,hb⟩;replace HRx1:=Aside0.mk (Rd.below HRx1.out hb);replace HB:=Aside0.mk (below_step HB.out hb);clear hb;have HCa1:=Aside0.mk hC;clear hC))|(go_at_call 46;go_must (refine(Play.calls x1 (twoL 1 0) Aa1 ca1 [0,1] (some ⟨wn_a1.heap.size,0,none⟩) 4 [2,1,3,3] (some ⟨wn_a1.heap.size+1,0,none⟩) 2 [7,5] _ (HRx1.out.below (below_alloc (below_alloc (Below.refl _ _) _) _)) (Kd.C_below HCa1.out (below_alloc (below_alloc (Below.refl _ _) _) _)) hca1 (row_C (enc:=encI) (fun _ _=>rfl) (blk_alloc (blk_new _ _) _) rfl (show 4≤1000 by decide)) (row_C (enc:=encI) (fun _ _=>rfl) (new2 _ _ _) rfl (show 2≤1000 by decide))).mono ?_;rw [ex_err,ex_play];rintro e wn_p ⟨v,rfl,ho,hb⟩;obtain⟨Ap,cp,rfl,hcp,hC⟩:=Kd.R_reads ho;replace HB:=Aside0.mk (below_step (below_alloc (below_alloc HB.out _) _) hb);clear HRx1 HCa1 hb ho;have HCp:=Aside0.mk hC;clear hC)))
 go_upto_region 3 with(first|(go_at_call 69;go_must (refine(two_at 1 0 0 rfl (by decide) _).mono ?_;rintro e wn_x2 ⟨x2,rfl,hr,hb⟩;replace HCp:=Aside0.mk (Kd.C_below HCp.out hb);replace HB:=Aside0.mk (below_step HB.out hb);clear hb;have HRx2:=Aside0.mk hr;clear hr))|(go_at_call 70;go_must (refine(apart_at _).mono ?_;rintro e wn_a2 ⟨Aa2,ca2,rfl,hca2,hC,hb⟩;replace HCp:=Aside0.mk (Kd.C_below HCp.out hb);replace HRx2:=Aside0.mk (Rd.below HRx2.out hb);replace HB:=Aside0.mk (below_step HB.out hb);clear hb;have HCa2:=Aside0.mk hC;clear hC))|(go_at_call 21;go_must (refine(Left.calls x2 (twoL 1 0) Aa2 ca2 [0,1] 1 _ HRx2.out HCa2.out hca2).mono ?_;rintro e wn_ ⟨v,rfl,ho,hb⟩;replace HCp:=Aside0.mk (Kd.C_below HCp.out hb);replace HRx2:=Aside0.mk (Rd.below HRx2.out hb);replace HCa2:=Aside0.mk (Kd.C_below HCa2.out hb);replace HB:=Aside0.mk (below_step HB.out hb);clear hb;rw [ex_left]at ho;rw [ex_leftE];obtain⟨Al,cl,rfl,hcl,hC⟩:=Kd.R_reads ho;have HCl:=Aside0.mk hC;clear ho hC HRx2 HCa2)))
 go_upto_region 4 with(first|(go_at_call 69;go_must (refine(two_at 1 0 0 rfl (by decide) _).mono ?_;rintro e wn_x3 ⟨x3,rfl,hr,hb⟩;replace HCp:=Aside0.mk (Kd.C_below HCp.out hb);replace HCl:=Aside0.mk (Kd.C_below HCl.out hb);replace HB:=Aside0.mk (below_step HB.out hb);clear hb;have HRx3:=Aside0.mk hr;clear hr))|(go_at_call 70;go_must (refine(apart_at _).mono ?_;rintro e wn_a3 ⟨Aa3,ca3,rfl,hca3,hC,hb⟩;replace HCp:=Aside0.mk (Kd.C_below HCp.out hb);replace HCl:=Aside0.mk (Kd.C_below HCl.out hb);replace HRx3:=Aside0.mk (Rd.below HRx3.out hb);replace HB:=Aside0.mk (below_step HB.out hb);clear hb;have HCa3:=Aside0.mk hC;clear hC))|(go_at_call 24;go_must (refine(Dry.calls x3 (twoL 1 0) Aa3 ca3 [0,1] 1 2 _ HRx3.out HCa3.out hca3).mono ?_;rintro e wn_ ⟨rfl,hb⟩;replace HCp:=Aside0.mk (Kd.C_below HCp.out hb);replace HCl:=Aside0.mk (Kd.C_below HCl.out hb);replace HRx3:=Aside0.mk (Rd.below HRx3.out hb);replace HCa3:=Aside0.mk (Kd.C_below HCa3.out hb);replace HB:=Aside0.mk (below_step HB.out hb);clear hb;rw [ex_dry,ex_dryE];clear HRx3 HCa3)))
 go_upto_region 5 with(first|(go_at_call 69;go_must (refine(two_at 1 0 0 rfl (by decide) _).mono ?_;rintro e wn_x4 ⟨x4,rfl,hr,hb⟩;replace HCp:=Aside0.mk (Kd.C_below HCp.out hb);replace HCl:=Aside0.mk (Kd.C_below HCl.out hb);replace HB:=Aside0.mk (below_step HB.out hb);clear hb;have HRx4:=Aside0.mk hr;clear hr))|(go_at_call 70;go_must (refine(apart_at _).mono ?_;rintro e wn_a4 ⟨Aa4,ca4,rfl,hca4,hC,hb⟩;replace HCp:=Aside0.mk (Kd.C_below HCp.out hb);replace HCl:=Aside0.mk (Kd.C_below HCl.out hb);replace HRx4:=Aside0.mk (Rd.below HRx4.out hb);replace HB:=Aside0.mk (below_step HB.out hb);clear hb;have HCa4:=Aside0.mk hC;clear hC))|(go_at_call 33;go_must (refine(Day.calls x4 (twoL 1 0) Aa4 ca4 [0,1] 0 _ HRx4.out HCa4.out hca4).mono ?_;rintro e wn_ ⟨rfl,hb⟩;replace HCp:=Aside0.mk (Kd.C_below HCp.out hb);replace HCl:=Aside0.mk (Kd.C_below HCl.out hb);replace HRx4:=Aside0.mk (Rd.below HRx4.out hb);replace HCa4:=Aside0.mk (Kd.C_below HCa4.out hb);replace HB:=Aside0.mk (below_step HB.out hb);clear hb;rw [ex_day,ex_dayE];clear HRx4 HCa4)))
 go_upto_region 6 with(first|(go_at_call 69;go_must (refine(two_at 1 0 0 rfl (by decide) _).mono ?_;rintro e wn_x5 ⟨x5,rfl,hr,hb⟩;replace HCp:=Aside0.mk (Kd.C_below HCp.out hb);replace HCl:=Aside0.mk (Kd.C_below HCl.out hb);replace HB:=Aside0.mk (below_step HB.out hb);clear hb;have HRx5:=Aside0.mk hr;clear hr))|(go_at_call 34;go_must (refine(Stuck.calls x5 (twoL 1 0) (some ⟨wn_x5.heap.size,0,none⟩) 2 [1,0] _ (HRx5.out.below (below_alloc (Below.refl _ _) _)) (row_C (enc:=encI) (fun _ _=>rfl) (blk_new _ _) rfl (show 2≤1000 by decide)) (Nat.le_refl _)).mono ?_;rw [ex_stuck,ex_stuckE];rintro e wn_ ⟨rfl,hb⟩;have hb2:=below_step (below_alloc (Below.refl _ _) _) hb;clear hb;clear HRx5;replace HCp:=Aside0.mk (Kd.C_below HCp.out hb2);replace HCl:=Aside0.mk (Kd.C_below HCl.out hb2);replace HB:=Aside0.mk (below_step HB.out hb2);clear hb2)))
 go_upto_region 7 with(first|(go_at_call 69;go_must (refine(two_at 2 0 0 rfl (by decide) _).mono ?_;rintro e wn_x6 ⟨x6,rfl,hr,hb⟩;replace HCp:=Aside0.mk (Kd.C_below HCp.out hb);replace HCl:=Aside0.mk (Kd.C_below HCl.out hb);replace HB:=Aside0.mk (below_step HB.out hb);clear hb;have HRx6:=Aside0.mk hr;clear hr))|(go_at_call 59;go_must (refine(Best.calls x6 (twoL 2 0) _ HRx6.out).mono ?_;rintro e wn_ ⟨v,rfl,ho,hb⟩;replace HCp:=Aside0.mk (Kd.C_below HCp.out hb);replace HCl:=Aside0.mk (Kd.C_below HCl.out hb);replace HRx6:=Aside0.mk (Rd.below HRx6.out hb);replace HB:=Aside0.mk (below_step HB.out hb);clear hb;rw [ex_best]at ho;rw [ex_best,ex_bestE];obtain⟨Ab,cb,rfl,hcb,hC⟩:=Kd.R_reads ho;have HCb:=Aside0.mk hC;clear ho hC HRx6)))
 go_upto_region 8 with(first|(go_at_call 69;go_must (refine(two_at 1 1 1 rfl (by decide) _).mono ?_;rintro e wn_x7 ⟨x7,rfl,hr,hb⟩;replace HCp:=Aside0.mk (Kd.C_below HCp.out hb);replace HCl:=Aside0.mk (Kd.C_below HCl.out hb);replace HCb:=Aside0.mk (Kd.C_below HCb.out hb);replace HB:=Aside0.mk (below_step HB.out hb);clear hb;have HRx7:=Aside0.mk hr;clear hr))|(go_at_call 64;go_must (refine(By.calls x7 (twoL 1 1) 2 _ HRx7.out).mono ?_;rintro e wn_ ⟨v,rfl,ho,hb⟩;replace HCp:=Aside0.mk (Kd.C_below HCp.out hb);replace HCl:=Aside0.mk (Kd.C_below HCl.out hb);replace HCb:=Aside0.mk (Kd.C_below HCb.out hb);replace HRx7:=Aside0.mk (Rd.below HRx7.out hb);replace HB:=Aside0.mk (below_step HB.out hb);clear hb;rw [ex_by]at ho;rw [ex_byE];obtain⟨Ay,cy,rfl,hcy,hC⟩:=Kd.R_reads ho;have HCy:=Aside0.mk hC;clear ho hC HRx7)))
 go_upto_region 9 with(first|(go_at_call 69;go_must (refine(two_at 1 2 2 rfl (by decide) _).mono ?_;rintro e wn_x8 ⟨x8,rfl,hr,hb⟩;replace HCp:=Aside0.mk (Kd.C_below HCp.out hb);replace HCl:=Aside0.mk (Kd.C_below HCl.out hb);replace HCb:=Aside0.mk (Kd.C_below HCb.out hb);replace HCy:=Aside0.mk (Kd.C_below HCy.out hb);replace HB:=Aside0.mk (below_step HB.out hb);clear hb;have HRx8:=Aside0.mk hr;clear hr))|(go_at_call 37;go_must (refine(First.calls x8 (twoL 1 2) _ HRx8.out).mono ?_;rintro e wn_ ⟨rfl,hb⟩;replace HCp:=Aside0.mk (Kd.C_below HCp.out hb);replace HCl:=Aside0.mk (Kd.C_below HCl.out hb);replace HCb:=Aside0.mk (Kd.C_below HCb.out hb);replace HCy:=Aside0.mk (Kd.C_below HCy.out hb);replace HRx8:=Aside0.mk (Rd.below HRx8.out hb);replace HB:=Aside0.mk (below_step HB.out hb);clear hb;rw [ex_first,ex_firstE];clear HRx8)))
 go_upto_region 10 with(first|(go_at_call 69;go_must (refine(two_at 1 2 2 rfl (by decide) _).mono ?_;rintro e wn_x9 ⟨x9,rfl,hr,hb⟩;replace HCp:=Aside0.mk (Kd.C_below HCp.out hb);replace HCl:=Aside0.mk (Kd.C_below HCl.out hb);replace HCb:=Aside0.mk (Kd.C_below HCb.out hb);replace HCy:=Aside0.mk (Kd.C_below HCy.out hb);replace HB:=Aside0.mk (below_step HB.out hb);clear hb;have HRx9:=Aside0.mk hr;clear hr))|(go_at_call 38;go_must (refine(Leave.calls x9 (twoL 1 2) _ HRx9.out).mono ?_;rintro e wn_ ⟨v,rfl,ho,hb⟩;replace HCp:=Aside0.mk (Kd.C_below HCp.out hb);replace HCl:=Aside0.mk (Kd.C_below HCl.out hb);replace HCb:=Aside0.mk (Kd.C_below HCb.out hb);replace HCy:=Aside0.mk (Kd.C_below HCy.out hb);replace HRx9:=Aside0.mk (Rd.below HRx9.out hb);replace HB:=Aside0.mk (below_step HB.out hb);clear hb;rw [ex_leave]at ho;rw [ex_leaveE];obtain⟨Av,cv,rfl,hcv,hC⟩:=Kd.R_reads ho;have HCv:=Aside0.mk hC;clear ho hC HRx9)))
 obtain⟨adp,A0,c0,ep,f0,hc0,hC0⟩:=at_L12 HCp.out 0 (by decide) (by decide)
 obtain⟨adp',A1,c1,ep',f1,hc1,hC1⟩:=at_L12 HCp.out 1 (by decide) (by decide)
 obtain⟨adl,el,f2,f3⟩:=at_T56 HCl.out 1 (by decide) (by decide)
 obtain rfl:adp=adp':=by rw [ep]at ep';exact Option.some.inj ep'
 subst ep el
 have F0:=Aside0.mk (show wn_.drew.cell? adp=some (.slice A0 4 c0)from f0)
 have F1:=Aside0.mk (show wn_.drew.cell? ⟨adp.block,adp.off+1,none⟩=some (.slice A1 3 c1)from f1)
 have F2:=Aside0.mk (show wn_.drew.cell? ⟨adl.block,adl.off+2,none⟩=some (.int .i64 0)from f2)
 have F3:=Aside0.mk (show wn_.drew.cell? ⟨adl.block,adl.off+2+1,none⟩=some (.int .i64 2)from f3)
 have HC0:=Aside0.mk (Kd.C_drew hC0)
 have HC1:=Aside0.mk (Kd.C_drew hC1)
 replace HCb:=Aside0.mk (Kd.C_drew HCb.out)
 replace HCy:=Aside0.mk (Kd.C_drew HCy.out)
 replace HCv:=Aside0.mk (Kd.C_drew HCv.out)
 clear f0 f1 f2 f3 hC0 hC1 ep' HCp HCl
 refine wp_open 100 _ (fun v=> {tmps:=#[.bool false,.slice (some adp) 2 cp,.int .i64 0,.slice (some adl) 3 cl,.int .i64 0,.int .i64 3,.int .i64 0,.int .i64 1,.int .i64 0,.int .i64 0,.int .i64 0,.slice Ab 2 cb,.int .i64 2,.int .i64 0,.slice Ay 2 cy,.int .i64 0,.int .i64 1,.int .i64 0,.slice Av 1 cv,.int .i64 0,.tuple #[.slice (some adp) 2 cp,.int .i64 0],.agg (x1.cells (twoL 1 0)),.slice Aa1 2 ca1,.slice (some ⟨wn_a1.heap.size,0,none⟩) 4 4,.slice (some ⟨wn_a1.heap.size+1,0,none⟩) 2 2,.agg #[.slice (some ⟨wn_a1.heap.size,0,none⟩) 4 4,.slice (some ⟨wn_a1.heap.size+1,0,none⟩) 2 2],.tuple #[.slice (some adp) 2 cp,.int .i64 0],.slice (some adp) 2 cp,.int .i64 0,.tuple #[.slice (some adl) 3 cl,.int .i64 0],.agg (x2.cells (twoL 1 0)),.slice Aa2 2 ca2,.tuple #[.slice (some adl) 3 cl,.int .i64 0],.slice (some adl) 3 cl,.int .i64 0,.tuple #[.int .i64 3,.int .i64 0],.agg (x3.cells (twoL 1 0)),.slice Aa3 2 ca3,.tuple #[.int .i64 3,.int .i64 0],.int .i64 3,.int .i64 0,.tuple #[.int .i64 1,.int .i64 0],.agg (x4.cells (twoL 1 0)),.slice Aa4 2 ca4,.tuple #[.int .i64 1,.int .i64 0],.int .i64 1,.int .i64 0,.tuple #[.int .i64 0,.int .i64 0],.agg (x5.cells (twoL 1 0)),.slice (some ⟨wn_x5.heap.size,0,none⟩) 2 2,.tuple #[.int .i64 0,.int .i64 0],.int .i64 0,.int .i64 0,.tuple #[.slice Ab 2 cb,.int .i64 2,.int .i64 0],.agg (x6.cells (twoL 2 0)),.tuple #[.slice Ab 2 cb,.int .i64 2,.int .i64 0],.slice Ab 2 cb,.int .i64 2,.int .i64 0,.tuple #[.slice Ay 2 cy,.int .i64 0],.agg (x7.cells (twoL 1 1)),.tuple #[.slice Ay 2 cy,.int .i64 0],.slice Ay 2 cy,.int .i64 0,.tuple #[.int .i64 1,.int .i64 0],.agg (x8.cells (twoL 1 2)),.tuple #[.int .i64 1,.int .i64 0],.int .i64 1,.int .i64 0,.tuple #[.slice Av 1 cv,.int .i64 0],.agg (x9.cells (twoL 1 2)),.tuple #[.slice Av 1 cv,.int .i64 0],.slice Av 1 cv,.int .i64 0,v 0,v 1,v 2,v 3,v 4,v 5,v 6,v 7,v 8,v 9,v 10,v 11,v 12,v 13,v 14,v 15,v 16,v 17,v 18,v 19,v 20,v 21,v 22,v 23,v 24,v 25,v 26,v 27,v 28,v 29,v 30,v 31,v 32,v 33,v 34,v 35,v 36,v 37,v 38,v 39,v 40,v 41,v 42,v 43,v 44,v 45,v 46,v 47,v 48,v 49,v 50,v 51,v 52,v 53,v 54,v 55,v 56,v 57,v 58,v 59,v 60,v 61,v 62,v 63,v 64,v 65,v 66,v 67,v 68,v 69,v 70,v 71,v 72,v 73,v 74,v 75,v 76,v 77,v 78,v 79,v 80,v 81,v 82,v 83,v 84,v 85,v 86,v 87,v 88,v 89,v 90,v 91,v 92,v 93,v 94,v 95,v 96,v 97,v 98,v 99],defers:= []}) (fun _=>undef) (fun j x w=>match j with
  |0=>x= .int .i64 0
  |1=>x= .bool true
  |2=>x= .bool true
  |3=>x= .slice (some adp) 2 cp
  |4=>x= .int .i64 2
  |5=>x= .bool true
  |6=>x= .bool true
  |7=>x= .bool true
  |8=>x= .slice (some adp) 2 cp
  |9=>x= .pointer (some (adp.add 0))
  |10=>x= .slice A0 4 c0
  |11=>∃g,x= .slice (some ⟨g,0,none⟩) 4 4∧w.heap[g]? =some (.cells #[.int .i64 3,.int .i64 0,.int .i64 0,.int .i64 0] 3 (0,0))
  |12=>x= .bool true
  |13=>x= .bool true
  |14=>x= .bool true
  |15=>x= .slice (some adp) 2 cp
  |16=>x= .pointer (some (adp.add 1))
  |17=>x= .slice A1 3 c1
  |18=>∃g,x= .slice (some ⟨g,0,none⟩) 3 3∧w.heap[g]? =some (.cells #[.int .i64 4,.int .i64 1,.int .i64 0] 3 (0,0))
  |19=>x= .bool true
  |20=>x= .bool true
  |21=>x= .bool true
  |22=>x= .int .i64 0
  |23=>x= .bool true
  |24=>x= .bool true
  |25=>x= .bool true
  |26=>x= .slice (some adl) 3 cl
  |27=>x= .int .i64 3
  |28=>x= .bool true
  |29=>x= .bool true
  |30=>x= .bool true
  |31=>x= .slice (some adl) 3 cl
  |32=>x= .pointer (some (adl.add 2))
  |33=>x= .agg #[.int .i64 0,.int .i64 2]
  |34=>x= .agg #[.int .i64 0,.int .i64 2]
  |35=>x= .bool true
  |36=>x= .bool true
  |37=>x= .bool true
  |38=>x= .int .i64 0
  |39=>x= .bool true
  |40=>x= .bool true
  |41=>x= .bool true
  |42=>x= .int .i64 3
  |43=>x= .bool true
  |44=>x= .bool true
  |45=>x= .bool true
  |46=>x= .int .i64 0
  |47=>x= .bool true
  |48=>x= .bool true
  |49=>x= .bool true
  |50=>x= .int .i64 1
  |51=>x= .bool true
  |52=>x= .bool true
  |53=>x= .bool true
  |54=>x= .int .i64 0
  |55=>x= .bool true
  |56=>x= .bool true
  |57=>x= .bool true
  |58=>x= .int .i64 0
  |59=>x= .bool true
  |60=>x= .bool true
  |61=>x= .bool true
  |62=>x= .int .i64 0
  |63=>x= .bool true
  |64=>x= .bool true
  |65=>x= .bool true
  |66=>x= .slice Ab 2 cb
  |67=>∃g,x= .slice (some ⟨g,0,none⟩) 2 2∧w.heap[g]? =some (.cells #[.int .i64 0,.int .i64 0] 3 (0,0))
  |68=>x= .bool true
  |69=>x= .bool true
  |70=>x= .bool true
  |71=>x= .int .i64 2
  |72=>x= .bool true
  |73=>x= .bool true
  |74=>x= .bool true
  |75=>x= .int .i64 0
  |76=>x= .bool true
  |77=>x= .bool true
  |78=>x= .bool true
  |79=>x= .slice Ay 2 cy
  |80=>∃A c,x= .slice A 2 c∧2≤c∧Kd.C (Kd.int .i64) w A 2 [0,1]
  |81=>x= .bool true
  |82=>x= .bool true
  |83=>x= .bool true
  |84=>x= .int .i64 0
  |85=>x= .bool true
  |86=>x= .bool true
  |87=>x= .bool true
  |88=>x= .int .i64 1
  |89=>x= .bool true
  |90=>x= .bool true
  |91=>x= .bool true
  |92=>x= .int .i64 0
  |93=>x= .bool true
  |94=>x= .bool true
  |95=>x= .bool true
  |96=>x= .slice Av 1 cv
  |97=>∃g,x= .slice (some ⟨g,0,none⟩) 1 1∧w.heap[g]? =some (.cells #[.int .i64 1] 3 (0,0))
  |98=>x= .bool true
  |99=>x= .bool true
  |_=>True) (fun X=>Below wn_.drew.heap.size wn_.drew X) (by kernel_rfl) rfl rfl (by kernel_rfl) rfl (Below.refl _ _) ?_ ?_ ?_
 ·intro j hj x W W' hb h
  obtain hlt|hge:=Nat.lt_or_ge j 10
  ·obtain rfl|rfl|rfl|rfl|rfl|rfl|rfl|rfl|rfl|rfl:j=0∨j=1∨j=2∨j=3∨j=4∨j=5∨j=6∨j=7∨j=8∨j=9:=by omega
   all_goals first|exact h|(obtain⟨g,e,h1⟩:=h;exact⟨g,e,blk_below h1 hb⟩)|(obtain⟨A,c,e,h1,h2⟩:=h;exact⟨A,c,e,h1,Kd.C_below h2 hb⟩)
  obtain hlt|hge:=Nat.lt_or_ge j 20
  ·obtain rfl|rfl|rfl|rfl|rfl|rfl|rfl|rfl|rfl|rfl:j=10∨j=11∨j=12∨j=13∨j=14∨j=15∨j=16∨j=17∨j=18∨j=19:=by omega
   all_goals first|exact h|(obtain⟨g,e,h1⟩:=h;exact⟨g,e,blk_below h1 hb⟩)|(obtain⟨A,c,e,h1,h2⟩:=h;exact⟨A,c,e,h1,Kd.C_below h2 hb⟩)
  obtain hlt|hge:=Nat.lt_or_ge j 30
  ·obtain rfl|rfl|rfl|rfl|rfl|rfl|rfl|rfl|rfl|rfl:j=20∨j=21∨j=22∨j=23∨j=24∨j=25∨j=26∨j=27∨j=28∨j=29:=by omega
   all_goals first|exact h|(obtain⟨g,e,h1⟩:=h;exact⟨g,e,blk_below h1 hb⟩)|(obtain⟨A,c,e,h1,h2⟩:=h;exact⟨A,c,e,h1,Kd.C_below h2 hb⟩)
  obtain hlt|hge:=Nat.lt_or_ge j 40
  ·obtain rfl|rfl|rfl|rfl|rfl|rfl|rfl|rfl|rfl|rfl:j=30∨j=31∨j=32∨j=33∨j=34∨j=35∨j=36∨j=37∨j=38∨j=39:=by omega
   all_goals first|exact h|(obtain⟨g,e,h1⟩:=h;exact⟨g,e,blk_below h1 hb⟩)|(obtain⟨A,c,e,h1,h2⟩:=h;exact⟨A,c,e,h1,Kd.C_below h2 hb⟩)
  obtain hlt|hge:=Nat.lt_or_ge j 50
  ·obtain rfl|rfl|rfl|rfl|rfl|rfl|rfl|rfl|rfl|rfl:j=40∨j=41∨j=42∨j=43∨j=44∨j=45∨j=46∨j=47∨j=48∨j=49:=by omega
   all_goals first|exact h|(obtain⟨g,e,h1⟩:=h;exact⟨g,e,blk_below h1 hb⟩)|(obtain⟨A,c,e,h1,h2⟩:=h;exact⟨A,c,e,h1,Kd.C_below h2 hb⟩)
  obtain hlt|hge:=Nat.lt_or_ge j 60
  ·obtain rfl|rfl|rfl|rfl|rfl|rfl|rfl|rfl|rfl|rfl:j=50∨j=51∨j=52∨j=53∨j=54∨j=55∨j=56∨j=57∨j=58∨j=59:=by omega
   all_goals first|exact h|(obtain⟨g,e,h1⟩:=h;exact⟨g,e,blk_below h1 hb⟩)|(obtain⟨A,c,e,h1,h2⟩:=h;exact⟨A,c,e,h1,Kd.C_below h2 hb⟩)
  obtain hlt|hge:=Nat.lt_or_ge j 70
  ·obtain rfl|rfl|rfl|rfl|rfl|rfl|rfl|rfl|rfl|rfl:j=60∨j=61∨j=62∨j=63∨j=64∨j=65∨j=66∨j=67∨j=68∨j=69:=by omega
   all_goals first|exact h|(obtain⟨g,e,h1⟩:=h;exact⟨g,e,blk_below h1 hb⟩)|(obtain⟨A,c,e,h1,h2⟩:=h;exact⟨A,c,e,h1,Kd.C_below h2 hb⟩)
  obtain hlt|hge:=Nat.lt_or_ge j 80
  ·obtain rfl|rfl|rfl|rfl|rfl|rfl|rfl|rfl|rfl|rfl:j=70∨j=71∨j=72∨j=73∨j=74∨j=75∨j=76∨j=77∨j=78∨j=79:=by omega
   all_goals first|exact h|(obtain⟨g,e,h1⟩:=h;exact⟨g,e,blk_below h1 hb⟩)|(obtain⟨A,c,e,h1,h2⟩:=h;exact⟨A,c,e,h1,Kd.C_below h2 hb⟩)
  obtain hlt|hge:=Nat.lt_or_ge j 90
  ·obtain rfl|rfl|rfl|rfl|rfl|rfl|rfl|rfl|rfl|rfl:j=80∨j=81∨j=82∨j=83∨j=84∨j=85∨j=86∨j=87∨j=88∨j=89:=by omega
   all_goals first|exact h|(obtain⟨g,e,h1⟩:=h;exact⟨g,e,blk_below h1 hb⟩)|(obtain⟨A,c,e,h1,h2⟩:=h;exact⟨A,c,e,h1,Kd.C_below h2 hb⟩)
  obtain rfl|rfl|rfl|rfl|rfl|rfl|rfl|rfl|rfl|rfl:j=90∨j=91∨j=92∨j=93∨j=94∨j=95∨j=96∨j=97∨j=98∨j=99:=by omega
  all_goals first|exact h|(obtain⟨g,e,h1⟩:=h;exact⟨g,e,blk_below h1 hb⟩)|(obtain⟨A,c,e,h1,h2⟩:=h;exact⟨A,c,e,h1,Kd.C_below h2 hb⟩)
 ·intro i hi
  obtain hlt|hge:=Nat.lt_or_ge i 10
  ·obtain rfl|rfl|rfl|rfl|rfl|rfl|rfl|rfl|rfl|rfl:i=0∨i=1∨i=2∨i=3∨i=4∨i=5∨i=6∨i=7∨i=8∨i=9:=by omega
   ·intro v w hB hj K hK
    refine wpOp_step (i:=0) (by rfl) (fun K' hK'=> ?_)
    refine value_ (w1:= ?_) (v:= ?_) (by rfl) rfl ?_ ?_
    rotate_left 2
    ·go_simp
     constructor
     ·rfl
     ·rfl
    exact hK' _ _ (hK _ _ rfl hB (Below.refl _ _))
   ·intro v w hB hj K hK
    have h0:v 0= .int .i64 0:=hj 0 (needs_mem (by kernel_rfl))
    refine wpOp_step (i:=1) (by rfl) (fun K' hK'=> ?_)
    refine value_ (w1:= ?_) (v:= ?_) (by rfl) rfl ?_ ?_
    rotate_left 2
    ·go_simp
     constructor
     ·rfl
     ·rfl
    exact hK' _ _ (hK _ _ rfl hB (Below.refl _ _))
   ·intro v w hB hj K hK
    have h1:v 1= .bool true:=hj 1 (needs_mem (by kernel_rfl))
    refine wpOp_step (i:=2) (by rfl) (fun K' hK'=> ?_)
    refine value_ (w1:= ?_) (v:= ?_) (by rfl) rfl ?_ ?_
    rotate_left 2
    ·go_simp
     constructor
     ·rfl
     ·rfl
    exact hK' _ _ (hK _ _ rfl hB (Below.refl _ _))
   ·intro v w hB hj K hK
    have h2:v 2= .bool true:=hj 2 (needs_mem (by kernel_rfl))
    refine wpOp_step (i:=3) (by rfl) (fun K' hK'=> ?_)
    refine value_ (w1:= ?_) (v:= ?_) (wanted_g rfl (yv (x:=v 2) h2)) rfl ?_ ?_
    rotate_left 2
    ·go_simp
     constructor
     ·rfl
     ·rfl
    exact hK' _ _ (hK _ _ rfl hB (Below.refl _ _))
   ·intro v w hB hj K hK
    have h3:v 3= .slice (some adp) 2 cp:=hj 3 (needs_mem (by kernel_rfl))
    have h2:v 2= .bool true:=hj 2 (needs_mem (by kernel_rfl))
    refine wpOp_step (i:=4) (by rfl) (fun K' hK'=> ?_)
    refine value_ (w1:= ?_) (v:= ?_) (wanted_g rfl (yv (x:=v 2) h2)) rfl ?_ ?_
    rotate_left 2
    ·go_simp
     constructor
     ·rfl
     ·rfl
    exact hK' _ _ (hK _ _ rfl hB (Below.refl _ _))
   ·intro v w hB hj K hK
    have h4:v 4= .int .i64 2:=hj 4 (needs_mem (by kernel_rfl))
    have h2:v 2= .bool true:=hj 2 (needs_mem (by kernel_rfl))
    refine wpOp_step (i:=5) (by rfl) (fun K' hK'=> ?_)
    refine value_ (w1:= ?_) (v:= ?_) (wanted_g rfl (yv (x:=v 2) h2)) rfl ?_ ?_
    rotate_left 2
    ·go_simp
     constructor
     ·rfl
     ·rfl
    exact hK' _ _ (hK _ _ rfl hB (Below.refl _ _))
   ·intro v w hB hj K hK
    have h2:v 2= .bool true:=hj 2 (needs_mem (by kernel_rfl))
    have h5:v 5= .bool true:=hj 5 (needs_mem (by kernel_rfl))
    refine wpOp_step (i:=6) (by rfl) (fun K' hK'=> ?_)
    refine value_ (w1:= ?_) (v:= ?_) (by rfl) rfl ?_ ?_
    rotate_left 2
    ·go_simp
     constructor
     ·rfl
     ·rfl
    exact hK' _ _ (hK _ _ rfl hB (Below.refl _ _))
   ·intro v w hB hj K hK
    have h6:v 6= .bool true:=hj 6 (needs_mem (by kernel_rfl))
    refine wpOp_step (i:=7) (by rfl) (fun K' hK'=> ?_)
    refine value_ (w1:= ?_) (v:= ?_) (by rfl) rfl ?_ ?_
    rotate_left 2
    ·go_simp
     constructor
     ·rfl
     ·rfl
    exact hK' _ _ (hK _ _ rfl hB (Below.refl _ _))
   ·intro v w hB hj K hK
    have h7:v 7= .bool true:=hj 7 (needs_mem (by kernel_rfl))
    refine wpOp_step (i:=8) (by rfl) (fun K' hK'=> ?_)
    refine value_ (w1:= ?_) (v:= ?_) (wanted_g rfl (yv (x:=v 7) h7)) rfl ?_ ?_
    rotate_left 2
    ·go_simp
     constructor
     ·rfl
     ·rfl
    exact hK' _ _ (hK _ _ rfl hB (Below.refl _ _))
   ·intro v w hB hj K hK
    have h8:v 8= .slice (some adp) 2 cp:=hj 8 (needs_mem (by kernel_rfl))
    have h7:v 7= .bool true:=hj 7 (needs_mem (by kernel_rfl))
    refine wpOp_step (i:=9) (by rfl) (fun K' hK'=> ?_)
    refine value_ (w1:= ?_) (v:= ?_) (wanted_g rfl (yv (x:=v 7) h7)) rfl ?_ ?_
    rotate_left 2
    ·go_simp
     constructor
     ·rfl
     ·rfl
    exact hK' _ _ (hK _ _ rfl hB (Below.refl _ _))
  obtain hlt|hge:=Nat.lt_or_ge i 20
  ·obtain rfl|rfl|rfl|rfl|rfl|rfl|rfl|rfl|rfl|rfl:i=10∨i=11∨i=12∨i=13∨i=14∨i=15∨i=16∨i=17∨i=18∨i=19:=by omega
   ·intro v w hB hj K hK
    have h9:v 9= .pointer (some (adp.add 0)):=hj 9 (needs_mem (by kernel_rfl))
    have h7:v 7= .bool true:=hj 7 (needs_mem (by kernel_rfl))
    refine wpOp_step (i:=10) (by rfl) (fun K' hK'=> ?_)
    have fc:w.cell? adp=_:=(hB.cell (World.block_lt_of_cell? _ _ F0.out)).trans F0.out
    refine value_ (w1:= ?_) (v:= ?_) (wanted_g rfl (yv (x:=v 7) h7)) rfl ?_ ?_
    rotate_left 2
    ·go_simp
     constructor
     ·rfl
     ·rfl
    exact hK' _ _ (hK _ _ rfl hB (Below.refl _ _))
   ·intro v w hB hj K hK
    have h7:v 7= .bool true:=hj 7 (needs_mem (by kernel_rfl))
    refine wpOp_step (i:=11) (by rfl) (fun K' hK'=> ?_)
    refine value_ (w1:= ?_) (v:= ?_) (wanted_g rfl (yv (x:=v 7) h7)) rfl ?_ ?_
    rotate_left 2
    ·go_simp
     constructor
     ·rfl
     ·rfl
    exact hK' _ _ (hK _ _ ⟨_,rfl,blk_new _ _⟩ (below_alloc hB _) (below_alloc (Below.refl _ _) _))
   ·intro v w hB hj K hK
    have h10:v 10= .slice A0 4 c0:=hj 10 (needs_mem (by kernel_rfl))
    obtain⟨g11,h11,b11⟩:=hj 11 (needs_mem (by kernel_rfl))
    have h7:v 7= .bool true:=hj 7 (needs_mem (by kernel_rfl))
    refine wpOp_step (i:=12) (by rfl) (fun K' hK'=> ?_)
    refine goes_ Try.func40 (by kernel_rfl) rfl #[.slice A0 4 c0,.slice (some ⟨g11,0,none⟩) 4 4] (wanted_g rfl (yv (x:=v 7) h7)) rfl rfl (by simp only [List.map_toArray,List.map_cons,List.map_nil];show #[v 10,v 11]=_;rw [h10,h11]) ?_
    refine(ints_at 9 A0 4 c0 [3,0,0,0] (some ⟨g11,0,none⟩) 4 4 w (Kd.C_below HC0.out hB) hc0 (row_C (enc:=encI) (fun _ _=>rfl) b11 rfl (show 4≤1000 by decide)) (Nat.le_refl _) (by kernel_rfl)).mono ?_
    rintro e w' ⟨rfl,hb⟩
    exact⟨_,rfl,hK' _ _ (hK _ _ rfl (below_step hB hb) hb)⟩
   ·intro v w hB hj K hK
    have h7:v 7= .bool true:=hj 7 (needs_mem (by kernel_rfl))
    have h12:v 12= .bool true:=hj 12 (needs_mem (by kernel_rfl))
    refine wpOp_step (i:=13) (by rfl) (fun K' hK'=> ?_)
    refine value_ (w1:= ?_) (v:= ?_) (by rfl) rfl ?_ ?_
    rotate_left 2
    ·go_simp
     constructor
     ·rfl
     ·rfl
    exact hK' _ _ (hK _ _ rfl hB (Below.refl _ _))
   ·intro v w hB hj K hK
    have h13:v 13= .bool true:=hj 13 (needs_mem (by kernel_rfl))
    refine wpOp_step (i:=14) (by rfl) (fun K' hK'=> ?_)
    refine value_ (w1:= ?_) (v:= ?_) (by rfl) rfl ?_ ?_
    rotate_left 2
    ·go_simp
     constructor
     ·rfl
     ·rfl
    exact hK' _ _ (hK _ _ rfl hB (Below.refl _ _))
   ·intro v w hB hj K hK
    have h14:v 14= .bool true:=hj 14 (needs_mem (by kernel_rfl))
    refine wpOp_step (i:=15) (by rfl) (fun K' hK'=> ?_)
    refine value_ (w1:= ?_) (v:= ?_) (wanted_g rfl (yv (x:=v 14) h14)) rfl ?_ ?_
    rotate_left 2
    ·go_simp
     constructor
     ·rfl
     ·rfl
    exact hK' _ _ (hK _ _ rfl hB (Below.refl _ _))
   ·intro v w hB hj K hK
    have h15:v 15= .slice (some adp) 2 cp:=hj 15 (needs_mem (by kernel_rfl))
    have h14:v 14= .bool true:=hj 14 (needs_mem (by kernel_rfl))
    refine wpOp_step (i:=16) (by rfl) (fun K' hK'=> ?_)
    refine value_ (w1:= ?_) (v:= ?_) (wanted_g rfl (yv (x:=v 14) h14)) rfl ?_ ?_
    rotate_left 2
    ·go_simp
     constructor
     ·rfl
     ·rfl
    exact hK' _ _ (hK _ _ rfl hB (Below.refl _ _))
   ·intro v w hB hj K hK
    have h16:v 16= .pointer (some (adp.add 1)):=hj 16 (needs_mem (by kernel_rfl))
    have h14:v 14= .bool true:=hj 14 (needs_mem (by kernel_rfl))
    refine wpOp_step (i:=17) (by rfl) (fun K' hK'=> ?_)
    have fc:w.cell? ⟨adp.block,adp.off+1,none⟩=_:=(hB.cell (World.block_lt_of_cell? _ _ F1.out)).trans F1.out
    refine value_ (w1:= ?_) (v:= ?_) (wanted_g rfl (yv (x:=v 14) h14)) rfl ?_ ?_
    rotate_left 2
    ·go_simp
     constructor
     ·rfl
     ·rfl
    exact hK' _ _ (hK _ _ rfl hB (Below.refl _ _))
   ·intro v w hB hj K hK
    have h14:v 14= .bool true:=hj 14 (needs_mem (by kernel_rfl))
    refine wpOp_step (i:=18) (by rfl) (fun K' hK'=> ?_)
    refine value_ (w1:= ?_) (v:= ?_) (wanted_g rfl (yv (x:=v 14) h14)) rfl ?_ ?_
    rotate_left 2
    ·go_simp
     constructor
     ·rfl
     ·rfl
    exact hK' _ _ (hK _ _ ⟨_,rfl,blk_new _ _⟩ (below_alloc hB _) (below_alloc (Below.refl _ _) _))
   ·intro v w hB hj K hK
    have h17:v 17= .slice A1 3 c1:=hj 17 (needs_mem (by kernel_rfl))
    obtain⟨g18,h18,b18⟩:=hj 18 (needs_mem (by kernel_rfl))
    have h14:v 14= .bool true:=hj 14 (needs_mem (by kernel_rfl))
    refine wpOp_step (i:=19) (by rfl) (fun K' hK'=> ?_)
    refine goes_ Try.func40 (by kernel_rfl) rfl #[.slice A1 3 c1,.slice (some ⟨g18,0,none⟩) 3 3] (wanted_g rfl (yv (x:=v 14) h14)) rfl rfl (by simp only [List.map_toArray,List.map_cons,List.map_nil];show #[v 17,v 18]=_;rw [h17,h18]) ?_
    refine(ints_at 9 A1 3 c1 [4,1,0] (some ⟨g18,0,none⟩) 3 3 w (Kd.C_below HC1.out hB) hc1 (row_C (enc:=encI) (fun _ _=>rfl) b18 rfl (show 3≤1000 by decide)) (Nat.le_refl _) (by kernel_rfl)).mono ?_
    rintro e w' ⟨rfl,hb⟩
    exact⟨_,rfl,hK' _ _ (hK _ _ rfl (below_step hB hb) hb)⟩
  obtain hlt|hge:=Nat.lt_or_ge i 30
  ·obtain rfl|rfl|rfl|rfl|rfl|rfl|rfl|rfl|rfl|rfl:i=20∨i=21∨i=22∨i=23∨i=24∨i=25∨i=26∨i=27∨i=28∨i=29:=by omega
   ·intro v w hB hj K hK
    have h14:v 14= .bool true:=hj 14 (needs_mem (by kernel_rfl))
    have h19:v 19= .bool true:=hj 19 (needs_mem (by kernel_rfl))
    refine wpOp_step (i:=20) (by rfl) (fun K' hK'=> ?_)
    refine value_ (w1:= ?_) (v:= ?_) (by rfl) rfl ?_ ?_
    rotate_left 2
    ·go_simp
     constructor
     ·rfl
     ·rfl
    exact hK' _ _ (hK _ _ rfl hB (Below.refl _ _))
   ·intro v w hB hj K hK
    have h20:v 20= .bool true:=hj 20 (needs_mem (by kernel_rfl))
    refine wpOp_step (i:=21) (by rfl) (fun K' hK'=> ?_)
    refine value_ (w1:= ?_) (v:= ?_) (by rfl) rfl ?_ ?_
    rotate_left 2
    ·go_simp
     constructor
     ·rfl
     ·rfl
    exact hK' _ _ (hK _ _ rfl hB (Below.refl _ _))
   ·intro v w hB hj K hK
    have h21:v 21= .bool true:=hj 21 (needs_mem (by kernel_rfl))
    refine wpOp_step (i:=22) (by rfl) (fun K' hK'=> ?_)
    refine value_ (w1:= ?_) (v:= ?_) (wanted_g rfl (yv (x:=v 21) h21)) rfl ?_ ?_
    rotate_left 2
    ·go_simp
     constructor
     ·rfl
     ·rfl
    exact hK' _ _ (hK _ _ rfl hB (Below.refl _ _))
   ·intro v w hB hj K hK
    have h22:v 22= .int .i64 0:=hj 22 (needs_mem (by kernel_rfl))
    have h21:v 21= .bool true:=hj 21 (needs_mem (by kernel_rfl))
    refine wpOp_step (i:=23) (by rfl) (fun K' hK'=> ?_)
    refine value_ (w1:= ?_) (v:= ?_) (wanted_g rfl (yv (x:=v 21) h21)) rfl ?_ ?_
    rotate_left 2
    ·go_simp
     constructor
     ·rfl
     ·rfl
    exact hK' _ _ (hK _ _ rfl hB (Below.refl _ _))
   ·intro v w hB hj K hK
    have h21:v 21= .bool true:=hj 21 (needs_mem (by kernel_rfl))
    have h23:v 23= .bool true:=hj 23 (needs_mem (by kernel_rfl))
    refine wpOp_step (i:=24) (by rfl) (fun K' hK'=> ?_)
    refine value_ (w1:= ?_) (v:= ?_) (by rfl) rfl ?_ ?_
    rotate_left 2
    ·go_simp
     constructor
     ·rfl
     ·rfl
    exact hK' _ _ (hK _ _ rfl hB (Below.refl _ _))
   ·intro v w hB hj K hK
    have h24:v 24= .bool true:=hj 24 (needs_mem (by kernel_rfl))
    refine wpOp_step (i:=25) (by rfl) (fun K' hK'=> ?_)
    refine value_ (w1:= ?_) (v:= ?_) (by rfl) rfl ?_ ?_
    rotate_left 2
    ·go_simp
     constructor
     ·rfl
     ·rfl
    exact hK' _ _ (hK _ _ rfl hB (Below.refl _ _))
   ·intro v w hB hj K hK
    have h25:v 25= .bool true:=hj 25 (needs_mem (by kernel_rfl))
    refine wpOp_step (i:=26) (by rfl) (fun K' hK'=> ?_)
    refine value_ (w1:= ?_) (v:= ?_) (wanted_g rfl (yv (x:=v 25) h25)) rfl ?_ ?_
    rotate_left 2
    ·go_simp
     constructor
     ·rfl
     ·rfl
    exact hK' _ _ (hK _ _ rfl hB (Below.refl _ _))
   ·intro v w hB hj K hK
    have h26:v 26= .slice (some adl) 3 cl:=hj 26 (needs_mem (by kernel_rfl))
    have h25:v 25= .bool true:=hj 25 (needs_mem (by kernel_rfl))
    refine wpOp_step (i:=27) (by rfl) (fun K' hK'=> ?_)
    refine value_ (w1:= ?_) (v:= ?_) (wanted_g rfl (yv (x:=v 25) h25)) rfl ?_ ?_
    rotate_left 2
    ·go_simp
     constructor
     ·rfl
     ·rfl
    exact hK' _ _ (hK _ _ rfl hB (Below.refl _ _))
   ·intro v w hB hj K hK
    have h27:v 27= .int .i64 3:=hj 27 (needs_mem (by kernel_rfl))
    have h25:v 25= .bool true:=hj 25 (needs_mem (by kernel_rfl))
    refine wpOp_step (i:=28) (by rfl) (fun K' hK'=> ?_)
    refine value_ (w1:= ?_) (v:= ?_) (wanted_g rfl (yv (x:=v 25) h25)) rfl ?_ ?_
    rotate_left 2
    ·go_simp
     constructor
     ·rfl
     ·rfl
    exact hK' _ _ (hK _ _ rfl hB (Below.refl _ _))
   ·intro v w hB hj K hK
    have h25:v 25= .bool true:=hj 25 (needs_mem (by kernel_rfl))
    have h28:v 28= .bool true:=hj 28 (needs_mem (by kernel_rfl))
    refine wpOp_step (i:=29) (by rfl) (fun K' hK'=> ?_)
    refine value_ (w1:= ?_) (v:= ?_) (by rfl) rfl ?_ ?_
    rotate_left 2
    ·go_simp
     constructor
     ·rfl
     ·rfl
    exact hK' _ _ (hK _ _ rfl hB (Below.refl _ _))
  obtain hlt|hge:=Nat.lt_or_ge i 40
  ·obtain rfl|rfl|rfl|rfl|rfl|rfl|rfl|rfl|rfl|rfl:i=30∨i=31∨i=32∨i=33∨i=34∨i=35∨i=36∨i=37∨i=38∨i=39:=by omega
   ·intro v w hB hj K hK
    have h29:v 29= .bool true:=hj 29 (needs_mem (by kernel_rfl))
    refine wpOp_step (i:=30) (by rfl) (fun K' hK'=> ?_)
    refine value_ (w1:= ?_) (v:= ?_) (by rfl) rfl ?_ ?_
    rotate_left 2
    ·go_simp
     constructor
     ·rfl
     ·rfl
    exact hK' _ _ (hK _ _ rfl hB (Below.refl _ _))
   ·intro v w hB hj K hK
    have h30:v 30= .bool true:=hj 30 (needs_mem (by kernel_rfl))
    refine wpOp_step (i:=31) (by rfl) (fun K' hK'=> ?_)
    refine value_ (w1:= ?_) (v:= ?_) (wanted_g rfl (yv (x:=v 30) h30)) rfl ?_ ?_
    rotate_left 2
    ·go_simp
     constructor
     ·rfl
     ·rfl
    exact hK' _ _ (hK _ _ rfl hB (Below.refl _ _))
   ·intro v w hB hj K hK
    have h31:v 31= .slice (some adl) 3 cl:=hj 31 (needs_mem (by kernel_rfl))
    have h30:v 30= .bool true:=hj 30 (needs_mem (by kernel_rfl))
    refine wpOp_step (i:=32) (by rfl) (fun K' hK'=> ?_)
    refine value_ (w1:= ?_) (v:= ?_) (wanted_g rfl (yv (x:=v 30) h30)) rfl ?_ ?_
    rotate_left 2
    ·go_simp
     constructor
     ·rfl
     ·rfl
    exact hK' _ _ (hK _ _ rfl hB (Below.refl _ _))
   ·intro v w hB hj K hK
    have h32:v 32= .pointer (some (adl.add 2)):=hj 32 (needs_mem (by kernel_rfl))
    have h30:v 30= .bool true:=hj 30 (needs_mem (by kernel_rfl))
    refine wpOp_step (i:=33) (by rfl) (fun K' hK'=> ?_)
    have fc:w.cell? ⟨adl.block,adl.off+2,none⟩=_:=(hB.cell (World.block_lt_of_cell? _ _ F2.out)).trans F2.out
    have fd:w.cell? ⟨adl.block,adl.off+2+1,none⟩=_:=(hB.cell (World.block_lt_of_cell? _ _ F3.out)).trans F3.out
    refine value_ (w1:= ?_) (v:= ?_) (wanted_g rfl (yv (x:=v 30) h30)) rfl ?_ ?_
    rotate_left 2
    ·go_simp
     constructor
     ·rfl
     ·rfl
    exact hK' _ _ (hK _ _ rfl hB (Below.refl _ _))
   ·intro v w hB hj K hK
    have h30:v 30= .bool true:=hj 30 (needs_mem (by kernel_rfl))
    refine wpOp_step (i:=34) (by rfl) (fun K' hK'=> ?_)
    refine goes_ Try.func71 (by kernel_rfl) rfl #[.int .i64 0,.int .i64 2] (wanted_g rfl (yv (x:=v 30) h30)) rfl rfl (by(try simp only [List.map_toArray,List.map_cons,List.map_nil]);rfl) ?_
    refine(anillaw06_between.calls 0 2 0 2 w rfl).mono ?_
    rintro e w' ⟨rfl,hb⟩
    exact⟨_,rfl,hK' _ _ (hK _ _ rfl (below_step hB hb) hb)⟩
   ·intro v w hB hj K hK
    have h33:v 33= .agg #[.int .i64 0,.int .i64 2]:=hj 33 (needs_mem (by kernel_rfl))
    have h34:v 34= .agg #[.int .i64 0,.int .i64 2]:=hj 34 (needs_mem (by kernel_rfl))
    have h30:v 30= .bool true:=hj 30 (needs_mem (by kernel_rfl))
    refine wpOp_step (i:=35) (by rfl) (fun K' hK'=> ?_)
    refine value_ (w1:= ?_) (v:= ?_) (wanted_g rfl (yv (x:=v 30) h30)) rfl ?_ ?_
    rotate_left 2
    ·go_simp
     constructor
     ·rfl
     ·rfl
    exact hK' _ _ (hK _ _ rfl hB (Below.refl _ _))
   ·intro v w hB hj K hK
    have h30:v 30= .bool true:=hj 30 (needs_mem (by kernel_rfl))
    have h35:v 35= .bool true:=hj 35 (needs_mem (by kernel_rfl))
    refine wpOp_step (i:=36) (by rfl) (fun K' hK'=> ?_)
    refine value_ (w1:= ?_) (v:= ?_) (by rfl) rfl ?_ ?_
    rotate_left 2
    ·go_simp
     constructor
     ·rfl
     ·rfl
    exact hK' _ _ (hK _ _ rfl hB (Below.refl _ _))
   ·intro v w hB hj K hK
    have h36:v 36= .bool true:=hj 36 (needs_mem (by kernel_rfl))
    refine wpOp_step (i:=37) (by rfl) (fun K' hK'=> ?_)
    refine value_ (w1:= ?_) (v:= ?_) (by rfl) rfl ?_ ?_
    rotate_left 2
    ·go_simp
     constructor
     ·rfl
     ·rfl
    exact hK' _ _ (hK _ _ rfl hB (Below.refl _ _))
   ·intro v w hB hj K hK
    have h37:v 37= .bool true:=hj 37 (needs_mem (by kernel_rfl))
    refine wpOp_step (i:=38) (by rfl) (fun K' hK'=> ?_)
    refine value_ (w1:= ?_) (v:= ?_) (wanted_g rfl (yv (x:=v 37) h37)) rfl ?_ ?_
    rotate_left 2
    ·go_simp
     constructor
     ·rfl
     ·rfl
    exact hK' _ _ (hK _ _ rfl hB (Below.refl _ _))
   ·intro v w hB hj K hK
    have h38:v 38= .int .i64 0:=hj 38 (needs_mem (by kernel_rfl))
    have h37:v 37= .bool true:=hj 37 (needs_mem (by kernel_rfl))
    refine wpOp_step (i:=39) (by rfl) (fun K' hK'=> ?_)
    refine value_ (w1:= ?_) (v:= ?_) (wanted_g rfl (yv (x:=v 37) h37)) rfl ?_ ?_
    rotate_left 2
    ·go_simp
     constructor
     ·rfl
     ·rfl
    exact hK' _ _ (hK _ _ rfl hB (Below.refl _ _))
  obtain hlt|hge:=Nat.lt_or_ge i 50
  ·obtain rfl|rfl|rfl|rfl|rfl|rfl|rfl|rfl|rfl|rfl:i=40∨i=41∨i=42∨i=43∨i=44∨i=45∨i=46∨i=47∨i=48∨i=49:=by omega
   ·intro v w hB hj K hK
    have h37:v 37= .bool true:=hj 37 (needs_mem (by kernel_rfl))
    have h39:v 39= .bool true:=hj 39 (needs_mem (by kernel_rfl))
    refine wpOp_step (i:=40) (by rfl) (fun K' hK'=> ?_)
    refine value_ (w1:= ?_) (v:= ?_) (by rfl) rfl ?_ ?_
    rotate_left 2
    ·go_simp
     constructor
     ·rfl
     ·rfl
    exact hK' _ _ (hK _ _ rfl hB (Below.refl _ _))
   ·intro v w hB hj K hK
    have h40:v 40= .bool true:=hj 40 (needs_mem (by kernel_rfl))
    refine wpOp_step (i:=41) (by rfl) (fun K' hK'=> ?_)
    refine value_ (w1:= ?_) (v:= ?_) (by rfl) rfl ?_ ?_
    rotate_left 2
    ·go_simp
     constructor
     ·rfl
     ·rfl
    exact hK' _ _ (hK _ _ rfl hB (Below.refl _ _))
   ·intro v w hB hj K hK
    have h41:v 41= .bool true:=hj 41 (needs_mem (by kernel_rfl))
    refine wpOp_step (i:=42) (by rfl) (fun K' hK'=> ?_)
    refine value_ (w1:= ?_) (v:= ?_) (wanted_g rfl (yv (x:=v 41) h41)) rfl ?_ ?_
    rotate_left 2
    ·go_simp
     constructor
     ·rfl
     ·rfl
    exact hK' _ _ (hK _ _ rfl hB (Below.refl _ _))
   ·intro v w hB hj K hK
    have h42:v 42= .int .i64 3:=hj 42 (needs_mem (by kernel_rfl))
    have h41:v 41= .bool true:=hj 41 (needs_mem (by kernel_rfl))
    refine wpOp_step (i:=43) (by rfl) (fun K' hK'=> ?_)
    refine value_ (w1:= ?_) (v:= ?_) (wanted_g rfl (yv (x:=v 41) h41)) rfl ?_ ?_
    rotate_left 2
    ·go_simp
     constructor
     ·rfl
     ·rfl
    exact hK' _ _ (hK _ _ rfl hB (Below.refl _ _))
   ·intro v w hB hj K hK
    have h41:v 41= .bool true:=hj 41 (needs_mem (by kernel_rfl))
    have h43:v 43= .bool true:=hj 43 (needs_mem (by kernel_rfl))
    refine wpOp_step (i:=44) (by rfl) (fun K' hK'=> ?_)
    refine value_ (w1:= ?_) (v:= ?_) (by rfl) rfl ?_ ?_
    rotate_left 2
    ·go_simp
     constructor
     ·rfl
     ·rfl
    exact hK' _ _ (hK _ _ rfl hB (Below.refl _ _))
   ·intro v w hB hj K hK
    have h44:v 44= .bool true:=hj 44 (needs_mem (by kernel_rfl))
    refine wpOp_step (i:=45) (by rfl) (fun K' hK'=> ?_)
    refine value_ (w1:= ?_) (v:= ?_) (by rfl) rfl ?_ ?_
    rotate_left 2
    ·go_simp
     constructor
     ·rfl
     ·rfl
    exact hK' _ _ (hK _ _ rfl hB (Below.refl _ _))
   ·intro v w hB hj K hK
    have h45:v 45= .bool true:=hj 45 (needs_mem (by kernel_rfl))
    refine wpOp_step (i:=46) (by rfl) (fun K' hK'=> ?_)
    refine value_ (w1:= ?_) (v:= ?_) (wanted_g rfl (yv (x:=v 45) h45)) rfl ?_ ?_
    rotate_left 2
    ·go_simp
     constructor
     ·rfl
     ·rfl
    exact hK' _ _ (hK _ _ rfl hB (Below.refl _ _))
   ·intro v w hB hj K hK
    have h46:v 46= .int .i64 0:=hj 46 (needs_mem (by kernel_rfl))
    have h45:v 45= .bool true:=hj 45 (needs_mem (by kernel_rfl))
    refine wpOp_step (i:=47) (by rfl) (fun K' hK'=> ?_)
    refine value_ (w1:= ?_) (v:= ?_) (wanted_g rfl (yv (x:=v 45) h45)) rfl ?_ ?_
    rotate_left 2
    ·go_simp
     constructor
     ·rfl
     ·rfl
    exact hK' _ _ (hK _ _ rfl hB (Below.refl _ _))
   ·intro v w hB hj K hK
    have h45:v 45= .bool true:=hj 45 (needs_mem (by kernel_rfl))
    have h47:v 47= .bool true:=hj 47 (needs_mem (by kernel_rfl))
    refine wpOp_step (i:=48) (by rfl) (fun K' hK'=> ?_)
    refine value_ (w1:= ?_) (v:= ?_) (by rfl) rfl ?_ ?_
    rotate_left 2
    ·go_simp
     constructor
     ·rfl
     ·rfl
    exact hK' _ _ (hK _ _ rfl hB (Below.refl _ _))
   ·intro v w hB hj K hK
    have h48:v 48= .bool true:=hj 48 (needs_mem (by kernel_rfl))
    refine wpOp_step (i:=49) (by rfl) (fun K' hK'=> ?_)
    refine value_ (w1:= ?_) (v:= ?_) (by rfl) rfl ?_ ?_
    rotate_left 2
    ·go_simp
     constructor
     ·rfl
     ·rfl
    exact hK' _ _ (hK _ _ rfl hB (Below.refl _ _))
  obtain hlt|hge:=Nat.lt_or_ge i 60
  ·obtain rfl|rfl|rfl|rfl|rfl|rfl|rfl|rfl|rfl|rfl:i=50∨i=51∨i=52∨i=53∨i=54∨i=55∨i=56∨i=57∨i=58∨i=59:=by omega
   ·intro v w hB hj K hK
    have h49:v 49= .bool true:=hj 49 (needs_mem (by kernel_rfl))
    refine wpOp_step (i:=50) (by rfl) (fun K' hK'=> ?_)
    refine value_ (w1:= ?_) (v:= ?_) (wanted_g rfl (yv (x:=v 49) h49)) rfl ?_ ?_
    rotate_left 2
    ·go_simp
     constructor
     ·rfl
     ·rfl
    exact hK' _ _ (hK _ _ rfl hB (Below.refl _ _))
   ·intro v w hB hj K hK
    have h50:v 50= .int .i64 1:=hj 50 (needs_mem (by kernel_rfl))
    have h49:v 49= .bool true:=hj 49 (needs_mem (by kernel_rfl))
    refine wpOp_step (i:=51) (by rfl) (fun K' hK'=> ?_)
    refine value_ (w1:= ?_) (v:= ?_) (wanted_g rfl (yv (x:=v 49) h49)) rfl ?_ ?_
    rotate_left 2
    ·go_simp
     constructor
     ·rfl
     ·rfl
    exact hK' _ _ (hK _ _ rfl hB (Below.refl _ _))
   ·intro v w hB hj K hK
    have h49:v 49= .bool true:=hj 49 (needs_mem (by kernel_rfl))
    have h51:v 51= .bool true:=hj 51 (needs_mem (by kernel_rfl))
    refine wpOp_step (i:=52) (by rfl) (fun K' hK'=> ?_)
    refine value_ (w1:= ?_) (v:= ?_) (by rfl) rfl ?_ ?_
    rotate_left 2
    ·go_simp
     constructor
     ·rfl
     ·rfl
    exact hK' _ _ (hK _ _ rfl hB (Below.refl _ _))
   ·intro v w hB hj K hK
    have h52:v 52= .bool true:=hj 52 (needs_mem (by kernel_rfl))
    refine wpOp_step (i:=53) (by rfl) (fun K' hK'=> ?_)
    refine value_ (w1:= ?_) (v:= ?_) (by rfl) rfl ?_ ?_
    rotate_left 2
    ·go_simp
     constructor
     ·rfl
     ·rfl
    exact hK' _ _ (hK _ _ rfl hB (Below.refl _ _))
   ·intro v w hB hj K hK
    have h53:v 53= .bool true:=hj 53 (needs_mem (by kernel_rfl))
    refine wpOp_step (i:=54) (by rfl) (fun K' hK'=> ?_)
    refine value_ (w1:= ?_) (v:= ?_) (wanted_g rfl (yv (x:=v 53) h53)) rfl ?_ ?_
    rotate_left 2
    ·go_simp
     constructor
     ·rfl
     ·rfl
    exact hK' _ _ (hK _ _ rfl hB (Below.refl _ _))
   ·intro v w hB hj K hK
    have h54:v 54= .int .i64 0:=hj 54 (needs_mem (by kernel_rfl))
    have h53:v 53= .bool true:=hj 53 (needs_mem (by kernel_rfl))
    refine wpOp_step (i:=55) (by rfl) (fun K' hK'=> ?_)
    refine value_ (w1:= ?_) (v:= ?_) (wanted_g rfl (yv (x:=v 53) h53)) rfl ?_ ?_
    rotate_left 2
    ·go_simp
     constructor
     ·rfl
     ·rfl
    exact hK' _ _ (hK _ _ rfl hB (Below.refl _ _))
   ·intro v w hB hj K hK
    have h53:v 53= .bool true:=hj 53 (needs_mem (by kernel_rfl))
    have h55:v 55= .bool true:=hj 55 (needs_mem (by kernel_rfl))
    refine wpOp_step (i:=56) (by rfl) (fun K' hK'=> ?_)
    refine value_ (w1:= ?_) (v:= ?_) (by rfl) rfl ?_ ?_
    rotate_left 2
    ·go_simp
     constructor
     ·rfl
     ·rfl
    exact hK' _ _ (hK _ _ rfl hB (Below.refl _ _))
   ·intro v w hB hj K hK
    have h56:v 56= .bool true:=hj 56 (needs_mem (by kernel_rfl))
    refine wpOp_step (i:=57) (by rfl) (fun K' hK'=> ?_)
    refine value_ (w1:= ?_) (v:= ?_) (by rfl) rfl ?_ ?_
    rotate_left 2
    ·go_simp
     constructor
     ·rfl
     ·rfl
    exact hK' _ _ (hK _ _ rfl hB (Below.refl _ _))
   ·intro v w hB hj K hK
    have h57:v 57= .bool true:=hj 57 (needs_mem (by kernel_rfl))
    refine wpOp_step (i:=58) (by rfl) (fun K' hK'=> ?_)
    refine value_ (w1:= ?_) (v:= ?_) (wanted_g rfl (yv (x:=v 57) h57)) rfl ?_ ?_
    rotate_left 2
    ·go_simp
     constructor
     ·rfl
     ·rfl
    exact hK' _ _ (hK _ _ rfl hB (Below.refl _ _))
   ·intro v w hB hj K hK
    have h58:v 58= .int .i64 0:=hj 58 (needs_mem (by kernel_rfl))
    have h57:v 57= .bool true:=hj 57 (needs_mem (by kernel_rfl))
    refine wpOp_step (i:=59) (by rfl) (fun K' hK'=> ?_)
    refine value_ (w1:= ?_) (v:= ?_) (wanted_g rfl (yv (x:=v 57) h57)) rfl ?_ ?_
    rotate_left 2
    ·go_simp
     constructor
     ·rfl
     ·rfl
    exact hK' _ _ (hK _ _ rfl hB (Below.refl _ _))
  obtain hlt|hge:=Nat.lt_or_ge i 70
  ·obtain rfl|rfl|rfl|rfl|rfl|rfl|rfl|rfl|rfl|rfl:i=60∨i=61∨i=62∨i=63∨i=64∨i=65∨i=66∨i=67∨i=68∨i=69:=by omega
   ·intro v w hB hj K hK
    have h57:v 57= .bool true:=hj 57 (needs_mem (by kernel_rfl))
    have h59:v 59= .bool true:=hj 59 (needs_mem (by kernel_rfl))
    refine wpOp_step (i:=60) (by rfl) (fun K' hK'=> ?_)
    refine value_ (w1:= ?_) (v:= ?_) (by rfl) rfl ?_ ?_
    rotate_left 2
    ·go_simp
     constructor
     ·rfl
     ·rfl
    exact hK' _ _ (hK _ _ rfl hB (Below.refl _ _))
   ·intro v w hB hj K hK
    have h60:v 60= .bool true:=hj 60 (needs_mem (by kernel_rfl))
    refine wpOp_step (i:=61) (by rfl) (fun K' hK'=> ?_)
    refine value_ (w1:= ?_) (v:= ?_) (by rfl) rfl ?_ ?_
    rotate_left 2
    ·go_simp
     constructor
     ·rfl
     ·rfl
    exact hK' _ _ (hK _ _ rfl hB (Below.refl _ _))
   ·intro v w hB hj K hK
    have h61:v 61= .bool true:=hj 61 (needs_mem (by kernel_rfl))
    refine wpOp_step (i:=62) (by rfl) (fun K' hK'=> ?_)
    refine value_ (w1:= ?_) (v:= ?_) (wanted_g rfl (yv (x:=v 61) h61)) rfl ?_ ?_
    rotate_left 2
    ·go_simp
     constructor
     ·rfl
     ·rfl
    exact hK' _ _ (hK _ _ rfl hB (Below.refl _ _))
   ·intro v w hB hj K hK
    have h62:v 62= .int .i64 0:=hj 62 (needs_mem (by kernel_rfl))
    have h61:v 61= .bool true:=hj 61 (needs_mem (by kernel_rfl))
    refine wpOp_step (i:=63) (by rfl) (fun K' hK'=> ?_)
    refine value_ (w1:= ?_) (v:= ?_) (wanted_g rfl (yv (x:=v 61) h61)) rfl ?_ ?_
    rotate_left 2
    ·go_simp
     constructor
     ·rfl
     ·rfl
    exact hK' _ _ (hK _ _ rfl hB (Below.refl _ _))
   ·intro v w hB hj K hK
    have h61:v 61= .bool true:=hj 61 (needs_mem (by kernel_rfl))
    have h63:v 63= .bool true:=hj 63 (needs_mem (by kernel_rfl))
    refine wpOp_step (i:=64) (by rfl) (fun K' hK'=> ?_)
    refine value_ (w1:= ?_) (v:= ?_) (by rfl) rfl ?_ ?_
    rotate_left 2
    ·go_simp
     constructor
     ·rfl
     ·rfl
    exact hK' _ _ (hK _ _ rfl hB (Below.refl _ _))
   ·intro v w hB hj K hK
    have h64:v 64= .bool true:=hj 64 (needs_mem (by kernel_rfl))
    refine wpOp_step (i:=65) (by rfl) (fun K' hK'=> ?_)
    refine value_ (w1:= ?_) (v:= ?_) (by rfl) rfl ?_ ?_
    rotate_left 2
    ·go_simp
     constructor
     ·rfl
     ·rfl
    exact hK' _ _ (hK _ _ rfl hB (Below.refl _ _))
   ·intro v w hB hj K hK
    have h65:v 65= .bool true:=hj 65 (needs_mem (by kernel_rfl))
    refine wpOp_step (i:=66) (by rfl) (fun K' hK'=> ?_)
    refine value_ (w1:= ?_) (v:= ?_) (wanted_g rfl (yv (x:=v 65) h65)) rfl ?_ ?_
    rotate_left 2
    ·go_simp
     constructor
     ·rfl
     ·rfl
    exact hK' _ _ (hK _ _ rfl hB (Below.refl _ _))
   ·intro v w hB hj K hK
    have h65:v 65= .bool true:=hj 65 (needs_mem (by kernel_rfl))
    refine wpOp_step (i:=67) (by rfl) (fun K' hK'=> ?_)
    refine value_ (w1:= ?_) (v:= ?_) (wanted_g rfl (yv (x:=v 65) h65)) rfl ?_ ?_
    rotate_left 2
    ·go_simp
     constructor
     ·rfl
     ·rfl
    exact hK' _ _ (hK _ _ ⟨_,rfl,blk_new _ _⟩ (below_alloc hB _) (below_alloc (Below.refl _ _) _))
   ·intro v w hB hj K hK
    have h66:v 66= .slice Ab 2 cb:=hj 66 (needs_mem (by kernel_rfl))
    obtain⟨g67,h67,b67⟩:=hj 67 (needs_mem (by kernel_rfl))
    have h65:v 65= .bool true:=hj 65 (needs_mem (by kernel_rfl))
    refine wpOp_step (i:=68) (by rfl) (fun K' hK'=> ?_)
    refine goes_ Try.func40 (by kernel_rfl) rfl #[.slice Ab 2 cb,.slice (some ⟨g67,0,none⟩) 2 2] (wanted_g rfl (yv (x:=v 65) h65)) rfl rfl (by simp only [List.map_toArray,List.map_cons,List.map_nil];show #[v 66,v 67]=_;rw [h66,h67]) ?_
    refine(ints_at 9 Ab 2 cb [0,0] (some ⟨g67,0,none⟩) 2 2 w (Kd.C_below HCb.out hB) hcb (row_C (enc:=encI) (fun _ _=>rfl) b67 rfl (show 2≤1000 by decide)) (Nat.le_refl _) (by kernel_rfl)).mono ?_
    rintro e w' ⟨rfl,hb⟩
    exact⟨_,rfl,hK' _ _ (hK _ _ rfl (below_step hB hb) hb)⟩
   ·intro v w hB hj K hK
    have h65:v 65= .bool true:=hj 65 (needs_mem (by kernel_rfl))
    have h68:v 68= .bool true:=hj 68 (needs_mem (by kernel_rfl))
    refine wpOp_step (i:=69) (by rfl) (fun K' hK'=> ?_)
    refine value_ (w1:= ?_) (v:= ?_) (by rfl) rfl ?_ ?_
    rotate_left 2
    ·go_simp
     constructor
     ·rfl
     ·rfl
    exact hK' _ _ (hK _ _ rfl hB (Below.refl _ _))
  obtain hlt|hge:=Nat.lt_or_ge i 80
  ·obtain rfl|rfl|rfl|rfl|rfl|rfl|rfl|rfl|rfl|rfl:i=70∨i=71∨i=72∨i=73∨i=74∨i=75∨i=76∨i=77∨i=78∨i=79:=by omega
   ·intro v w hB hj K hK
    have h69:v 69= .bool true:=hj 69 (needs_mem (by kernel_rfl))
    refine wpOp_step (i:=70) (by rfl) (fun K' hK'=> ?_)
    refine value_ (w1:= ?_) (v:= ?_) (by rfl) rfl ?_ ?_
    rotate_left 2
    ·go_simp
     constructor
     ·rfl
     ·rfl
    exact hK' _ _ (hK _ _ rfl hB (Below.refl _ _))
   ·intro v w hB hj K hK
    have h70:v 70= .bool true:=hj 70 (needs_mem (by kernel_rfl))
    refine wpOp_step (i:=71) (by rfl) (fun K' hK'=> ?_)
    refine value_ (w1:= ?_) (v:= ?_) (wanted_g rfl (yv (x:=v 70) h70)) rfl ?_ ?_
    rotate_left 2
    ·go_simp
     constructor
     ·rfl
     ·rfl
    exact hK' _ _ (hK _ _ rfl hB (Below.refl _ _))
   ·intro v w hB hj K hK
    have h71:v 71= .int .i64 2:=hj 71 (needs_mem (by kernel_rfl))
    have h70:v 70= .bool true:=hj 70 (needs_mem (by kernel_rfl))
    refine wpOp_step (i:=72) (by rfl) (fun K' hK'=> ?_)
    refine value_ (w1:= ?_) (v:= ?_) (wanted_g rfl (yv (x:=v 70) h70)) rfl ?_ ?_
    rotate_left 2
    ·go_simp
     constructor
     ·rfl
     ·rfl
    exact hK' _ _ (hK _ _ rfl hB (Below.refl _ _))
   ·intro v w hB hj K hK
    have h70:v 70= .bool true:=hj 70 (needs_mem (by kernel_rfl))
    have h72:v 72= .bool true:=hj 72 (needs_mem (by kernel_rfl))
    refine wpOp_step (i:=73) (by rfl) (fun K' hK'=> ?_)
    refine value_ (w1:= ?_) (v:= ?_) (by rfl) rfl ?_ ?_
    rotate_left 2
    ·go_simp
     constructor
     ·rfl
     ·rfl
    exact hK' _ _ (hK _ _ rfl hB (Below.refl _ _))
   ·intro v w hB hj K hK
    have h73:v 73= .bool true:=hj 73 (needs_mem (by kernel_rfl))
    refine wpOp_step (i:=74) (by rfl) (fun K' hK'=> ?_)
    refine value_ (w1:= ?_) (v:= ?_) (by rfl) rfl ?_ ?_
    rotate_left 2
    ·go_simp
     constructor
     ·rfl
     ·rfl
    exact hK' _ _ (hK _ _ rfl hB (Below.refl _ _))
   ·intro v w hB hj K hK
    have h74:v 74= .bool true:=hj 74 (needs_mem (by kernel_rfl))
    refine wpOp_step (i:=75) (by rfl) (fun K' hK'=> ?_)
    refine value_ (w1:= ?_) (v:= ?_) (wanted_g rfl (yv (x:=v 74) h74)) rfl ?_ ?_
    rotate_left 2
    ·go_simp
     constructor
     ·rfl
     ·rfl
    exact hK' _ _ (hK _ _ rfl hB (Below.refl _ _))
   ·intro v w hB hj K hK
    have h75:v 75= .int .i64 0:=hj 75 (needs_mem (by kernel_rfl))
    have h74:v 74= .bool true:=hj 74 (needs_mem (by kernel_rfl))
    refine wpOp_step (i:=76) (by rfl) (fun K' hK'=> ?_)
    refine value_ (w1:= ?_) (v:= ?_) (wanted_g rfl (yv (x:=v 74) h74)) rfl ?_ ?_
    rotate_left 2
    ·go_simp
     constructor
     ·rfl
     ·rfl
    exact hK' _ _ (hK _ _ rfl hB (Below.refl _ _))
   ·intro v w hB hj K hK
    have h74:v 74= .bool true:=hj 74 (needs_mem (by kernel_rfl))
    have h76:v 76= .bool true:=hj 76 (needs_mem (by kernel_rfl))
    refine wpOp_step (i:=77) (by rfl) (fun K' hK'=> ?_)
    refine value_ (w1:= ?_) (v:= ?_) (by rfl) rfl ?_ ?_
    rotate_left 2
    ·go_simp
     constructor
     ·rfl
     ·rfl
    exact hK' _ _ (hK _ _ rfl hB (Below.refl _ _))
   ·intro v w hB hj K hK
    have h77:v 77= .bool true:=hj 77 (needs_mem (by kernel_rfl))
    refine wpOp_step (i:=78) (by rfl) (fun K' hK'=> ?_)
    refine value_ (w1:= ?_) (v:= ?_) (by rfl) rfl ?_ ?_
    rotate_left 2
    ·go_simp
     constructor
     ·rfl
     ·rfl
    exact hK' _ _ (hK _ _ rfl hB (Below.refl _ _))
   ·intro v w hB hj K hK
    have h78:v 78= .bool true:=hj 78 (needs_mem (by kernel_rfl))
    refine wpOp_step (i:=79) (by rfl) (fun K' hK'=> ?_)
    refine value_ (w1:= ?_) (v:= ?_) (wanted_g rfl (yv (x:=v 78) h78)) rfl ?_ ?_
    rotate_left 2
    ·go_simp
     constructor
     ·rfl
     ·rfl
    exact hK' _ _ (hK _ _ rfl hB (Below.refl _ _))
  obtain hlt|hge:=Nat.lt_or_ge i 90
  ·obtain rfl|rfl|rfl|rfl|rfl|rfl|rfl|rfl|rfl|rfl:i=80∨i=81∨i=82∨i=83∨i=84∨i=85∨i=86∨i=87∨i=88∨i=89:=by omega
   ·intro v w hB hj K hK
    have h78:v 78= .bool true:=hj 78 (needs_mem (by kernel_rfl))
    refine wpOp_step (i:=80) (by rfl) (fun K' hK'=> ?_)
    refine goes_ Try.func70 (by kernel_rfl) rfl #[] (wanted_g rfl (yv (x:=v 78) h78)) rfl rfl (by simp) ?_
    refine(apart_at w).mono ?_
    rintro e w' ⟨A,c,rfl,hl,hC,hb⟩
    exact⟨_,rfl,hK' _ _ (hK _ _ ⟨A,c,rfl,hl,hC⟩ (below_step hB hb) hb)⟩
   ·intro v w hB hj K hK
    have h79:v 79= .slice Ay 2 cy:=hj 79 (needs_mem (by kernel_rfl))
    obtain⟨A80,c80,h80,l80,b80⟩:=hj 80 (needs_mem (by kernel_rfl))
    have h78:v 78= .bool true:=hj 78 (needs_mem (by kernel_rfl))
    refine wpOp_step (i:=81) (by rfl) (fun K' hK'=> ?_)
    refine goes_ Try.func40 (by kernel_rfl) rfl #[.slice Ay 2 cy,.slice A80 2 c80] (wanted_g rfl (yv (x:=v 78) h78)) rfl rfl (by simp only [List.map_toArray,List.map_cons,List.map_nil];show #[v 79,v 80]=_;rw [h79,h80]) ?_
    refine(ints_at 9 Ay 2 cy [0,1] A80 2 c80 w (Kd.C_below HCy.out hB) hcy b80 l80 (by kernel_rfl)).mono ?_
    rintro e w' ⟨rfl,hb⟩
    exact⟨_,rfl,hK' _ _ (hK _ _ rfl (below_step hB hb) hb)⟩
   ·intro v w hB hj K hK
    have h78:v 78= .bool true:=hj 78 (needs_mem (by kernel_rfl))
    have h81:v 81= .bool true:=hj 81 (needs_mem (by kernel_rfl))
    refine wpOp_step (i:=82) (by rfl) (fun K' hK'=> ?_)
    refine value_ (w1:= ?_) (v:= ?_) (by rfl) rfl ?_ ?_
    rotate_left 2
    ·go_simp
     constructor
     ·rfl
     ·rfl
    exact hK' _ _ (hK _ _ rfl hB (Below.refl _ _))
   ·intro v w hB hj K hK
    have h82:v 82= .bool true:=hj 82 (needs_mem (by kernel_rfl))
    refine wpOp_step (i:=83) (by rfl) (fun K' hK'=> ?_)
    refine value_ (w1:= ?_) (v:= ?_) (by rfl) rfl ?_ ?_
    rotate_left 2
    ·go_simp
     constructor
     ·rfl
     ·rfl
    exact hK' _ _ (hK _ _ rfl hB (Below.refl _ _))
   ·intro v w hB hj K hK
    have h83:v 83= .bool true:=hj 83 (needs_mem (by kernel_rfl))
    refine wpOp_step (i:=84) (by rfl) (fun K' hK'=> ?_)
    refine value_ (w1:= ?_) (v:= ?_) (wanted_g rfl (yv (x:=v 83) h83)) rfl ?_ ?_
    rotate_left 2
    ·go_simp
     constructor
     ·rfl
     ·rfl
    exact hK' _ _ (hK _ _ rfl hB (Below.refl _ _))
   ·intro v w hB hj K hK
    have h84:v 84= .int .i64 0:=hj 84 (needs_mem (by kernel_rfl))
    have h83:v 83= .bool true:=hj 83 (needs_mem (by kernel_rfl))
    refine wpOp_step (i:=85) (by rfl) (fun K' hK'=> ?_)
    refine value_ (w1:= ?_) (v:= ?_) (wanted_g rfl (yv (x:=v 83) h83)) rfl ?_ ?_
    rotate_left 2
    ·go_simp
     constructor
     ·rfl
     ·rfl
    exact hK' _ _ (hK _ _ rfl hB (Below.refl _ _))
   ·intro v w hB hj K hK
    have h83:v 83= .bool true:=hj 83 (needs_mem (by kernel_rfl))
    have h85:v 85= .bool true:=hj 85 (needs_mem (by kernel_rfl))
    refine wpOp_step (i:=86) (by rfl) (fun K' hK'=> ?_)
    refine value_ (w1:= ?_) (v:= ?_) (by rfl) rfl ?_ ?_
    rotate_left 2
    ·go_simp
     constructor
     ·rfl
     ·rfl
    exact hK' _ _ (hK _ _ rfl hB (Below.refl _ _))
   ·intro v w hB hj K hK
    have h86:v 86= .bool true:=hj 86 (needs_mem (by kernel_rfl))
    refine wpOp_step (i:=87) (by rfl) (fun K' hK'=> ?_)
    refine value_ (w1:= ?_) (v:= ?_) (by rfl) rfl ?_ ?_
    rotate_left 2
    ·go_simp
     constructor
     ·rfl
     ·rfl
    exact hK' _ _ (hK _ _ rfl hB (Below.refl _ _))
   ·intro v w hB hj K hK
    have h87:v 87= .bool true:=hj 87 (needs_mem (by kernel_rfl))
    refine wpOp_step (i:=88) (by rfl) (fun K' hK'=> ?_)
    refine value_ (w1:= ?_) (v:= ?_) (wanted_g rfl (yv (x:=v 87) h87)) rfl ?_ ?_
    rotate_left 2
    ·go_simp
     constructor
     ·rfl
     ·rfl
    exact hK' _ _ (hK _ _ rfl hB (Below.refl _ _))
   ·intro v w hB hj K hK
    have h88:v 88= .int .i64 1:=hj 88 (needs_mem (by kernel_rfl))
    have h87:v 87= .bool true:=hj 87 (needs_mem (by kernel_rfl))
    refine wpOp_step (i:=89) (by rfl) (fun K' hK'=> ?_)
    refine value_ (w1:= ?_) (v:= ?_) (wanted_g rfl (yv (x:=v 87) h87)) rfl ?_ ?_
    rotate_left 2
    ·go_simp
     constructor
     ·rfl
     ·rfl
    exact hK' _ _ (hK _ _ rfl hB (Below.refl _ _))
  obtain rfl|rfl|rfl|rfl|rfl|rfl|rfl|rfl|rfl|rfl:i=90∨i=91∨i=92∨i=93∨i=94∨i=95∨i=96∨i=97∨i=98∨i=99:=by omega
  ·intro v w hB hj K hK
   have h87:v 87= .bool true:=hj 87 (needs_mem (by kernel_rfl))
   have h89:v 89= .bool true:=hj 89 (needs_mem (by kernel_rfl))
   refine wpOp_step (i:=90) (by rfl) (fun K' hK'=> ?_)
   refine value_ (w1:= ?_) (v:= ?_) (by rfl) rfl ?_ ?_
   rotate_left 2
   ·go_simp
    constructor
    ·rfl
    ·rfl
   exact hK' _ _ (hK _ _ rfl hB (Below.refl _ _))
  ·intro v w hB hj K hK
   have h90:v 90= .bool true:=hj 90 (needs_mem (by kernel_rfl))
   refine wpOp_step (i:=91) (by rfl) (fun K' hK'=> ?_)
   refine value_ (w1:= ?_) (v:= ?_) (by rfl) rfl ?_ ?_
   rotate_left 2
   ·go_simp
    constructor
    ·rfl
    ·rfl
   exact hK' _ _ (hK _ _ rfl hB (Below.refl _ _))
  ·intro v w hB hj K hK
   have h91:v 91= .bool true:=hj 91 (needs_mem (by kernel_rfl))
   refine wpOp_step (i:=92) (by rfl) (fun K' hK'=> ?_)
   refine value_ (w1:= ?_) (v:= ?_) (wanted_g rfl (yv (x:=v 91) h91)) rfl ?_ ?_
   rotate_left 2
   ·go_simp
    constructor
    ·rfl
    ·rfl
   exact hK' _ _ (hK _ _ rfl hB (Below.refl _ _))
  ·intro v w hB hj K hK
   have h92:v 92= .int .i64 0:=hj 92 (needs_mem (by kernel_rfl))
   have h91:v 91= .bool true:=hj 91 (needs_mem (by kernel_rfl))
   refine wpOp_step (i:=93) (by rfl) (fun K' hK'=> ?_)
   refine value_ (w1:= ?_) (v:= ?_) (wanted_g rfl (yv (x:=v 91) h91)) rfl ?_ ?_
   rotate_left 2
   ·go_simp
    constructor
    ·rfl
    ·rfl
   exact hK' _ _ (hK _ _ rfl hB (Below.refl _ _))
  ·intro v w hB hj K hK
   have h91:v 91= .bool true:=hj 91 (needs_mem (by kernel_rfl))
   have h93:v 93= .bool true:=hj 93 (needs_mem (by kernel_rfl))
   refine wpOp_step (i:=94) (by rfl) (fun K' hK'=> ?_)
   refine value_ (w1:= ?_) (v:= ?_) (by rfl) rfl ?_ ?_
   rotate_left 2
   ·go_simp
    constructor
    ·rfl
    ·rfl
   exact hK' _ _ (hK _ _ rfl hB (Below.refl _ _))
  ·intro v w hB hj K hK
   have h94:v 94= .bool true:=hj 94 (needs_mem (by kernel_rfl))
   refine wpOp_step (i:=95) (by rfl) (fun K' hK'=> ?_)
   refine value_ (w1:= ?_) (v:= ?_) (by rfl) rfl ?_ ?_
   rotate_left 2
   ·go_simp
    constructor
    ·rfl
    ·rfl
   exact hK' _ _ (hK _ _ rfl hB (Below.refl _ _))
  ·intro v w hB hj K hK
   have h95:v 95= .bool true:=hj 95 (needs_mem (by kernel_rfl))
   refine wpOp_step (i:=96) (by rfl) (fun K' hK'=> ?_)
   refine value_ (w1:= ?_) (v:= ?_) (wanted_g rfl (yv (x:=v 95) h95)) rfl ?_ ?_
   rotate_left 2
   ·go_simp
    constructor
    ·rfl
    ·rfl
   exact hK' _ _ (hK _ _ rfl hB (Below.refl _ _))
  ·intro v w hB hj K hK
   have h95:v 95= .bool true:=hj 95 (needs_mem (by kernel_rfl))
   refine wpOp_step (i:=97) (by rfl) (fun K' hK'=> ?_)
   refine value_ (w1:= ?_) (v:= ?_) (wanted_g rfl (yv (x:=v 95) h95)) rfl ?_ ?_
   rotate_left 2
   ·go_simp
    constructor
    ·rfl
    ·rfl
   exact hK' _ _ (hK _ _ ⟨_,rfl,blk_new _ _⟩ (below_alloc hB _) (below_alloc (Below.refl _ _) _))
  ·intro v w hB hj K hK
   have h96:v 96= .slice Av 1 cv:=hj 96 (needs_mem (by kernel_rfl))
   obtain⟨g97,h97,b97⟩:=hj 97 (needs_mem (by kernel_rfl))
   have h95:v 95= .bool true:=hj 95 (needs_mem (by kernel_rfl))
   refine wpOp_step (i:=98) (by rfl) (fun K' hK'=> ?_)
   refine goes_ Try.func40 (by kernel_rfl) rfl #[.slice Av 1 cv,.slice (some ⟨g97,0,none⟩) 1 1] (wanted_g rfl (yv (x:=v 95) h95)) rfl rfl (by simp only [List.map_toArray,List.map_cons,List.map_nil];show #[v 96,v 97]=_;rw [h96,h97]) ?_
   refine(ints_at 9 Av 1 cv [1] (some ⟨g97,0,none⟩) 1 1 w (Kd.C_below HCv.out hB) hcv (row_C (enc:=encI) (fun _ _=>rfl) b97 rfl (show 1≤1000 by decide)) (Nat.le_refl _) (by kernel_rfl)).mono ?_
   rintro e w' ⟨rfl,hb⟩
   exact⟨_,rfl,hK' _ _ (hK _ _ rfl (below_step hB hb) hb)⟩
  ·intro v w hB hj K hK
   have h95:v 95= .bool true:=hj 95 (needs_mem (by kernel_rfl))
   have h98:v 98= .bool true:=hj 98 (needs_mem (by kernel_rfl))
   refine wpOp_step (i:=99) (by rfl) (fun K' hK'=> ?_)
   refine value_ (w1:= ?_) (v:= ?_) (by rfl) rfl ?_ ?_
   rotate_left 2
   ·go_simp
    constructor
    ·rfl
    ·rfl
   exact hK' _ _ (hK _ _ rfl hB (Below.refl _ _))
 ·intro v W hB hj K hK
  have h99:v 99= .bool true:=hj 99 (needs_mem (by kernel_rfl))
  refine wpOp_step (i:=100) (by rfl) (fun K' hK'=> ?_)
  refine value_ (w1:= ?_) (v:= ?_) (by rfl) rfl ?_ ?_
  rotate_left 2
  ·go_simp
   constructor
   ·rfl
   ·rfl
  refine hK' _ _ (hK _ _ ?_)
  have HBW:=Aside0.mk (below_step HB.out (below_step (below_drew1 (Below.refl _ _)) hB))
  clear hB hj hK hK'
  go_wp2
  go_ret
  exact⟨rfl,HBW.out⟩
end Go.Proofs.Ytjifalohjlihaaa.Q
end
section
namespace Go.Proofs.Ytjifalohjlihaaa.Q
set_option linter.unusedVariables false
open Go.BigFrame Go.RowKit Go.Shelf Go.Proofs.YtjifalohjlihaaaW.PrintWords Go.Proofs.YtjifalohjlihaaaW.PrintLast Go.Proofs.YtjifalohjlihaaaW.PrintMore
structure RL where
 a0:Int
 l1:List S52
 l2:List S89
 l3:List S54
 l4:List Int
 l5:List S108
def cR (x:S52):S56:=⟨x.f0,x.f1⟩
def cB (x:S89):S135:=⟨x.f0,x.f1⟩
def cC (x:S54):S126:=⟨x.f0,cR x.f1,x.f2⟩
def cW (x:S108):S137:=⟨x.f0,x.f1,cR x.f2⟩
def RL.sl (r:RL):SL:=⟨r.a0,r.l1.map cR,r.l2.map cB,r.l3.map cC,r.l4,r.l5.map cW⟩
abbrev RL.cells (r:RL) (x:SA):Array Value:=#[.int .i64 r.a0,.slice x.A1 r.l1.length x.c1,.slice x.A2 r.l2.length x.c2,.slice x.A3 r.l3.length x.c3,.slice x.A4 r.l4.length x.c4,.slice x.A5 r.l5.length x.c5]
structure RRd (w:World) (x:SA) (r:RL):Prop where
 r1:Kd.C k52 w x.A1 r.l1.length r.l1
 r2:Kd.C k89 w x.A2 r.l2.length r.l2
 r3:Kd.C k54 w x.A3 r.l3.length r.l3
 r4:Kd.C (Kd.int .i64) w x.A4 r.l4.length r.l4
 r5:Kd.C k108 w x.A5 r.l5.length r.l5
 h1:r.l1.length≤x.c1
 h2:r.l2.length≤x.c2
 h3:r.l3.length≤x.c3
 h4:r.l4.length≤x.c4
 h5:r.l5.length≤x.c5
theorem RRd.below {w w':World} {x:SA} {r:RL} (h:RRd w x r) (hb:Below w.heap.size w w'):RRd w' x r:=
 ⟨Kd.C_below h.r1 hb,Kd.C_below h.r2 hb,Kd.C_below h.r3 hb,Kd.C_below h.r4 hb,Kd.C_below h.r5 hb,h.h1,h.h2,h.h3,h.h4,h.h5⟩
theorem rd_cR (xs:List S52) (i:Int):rd_T56 (xs.map cR) i=cR (rd_T52 xs i):=by
 unfold rd_T56 rd_T52;rw [List.getD_eq_getElem?_getD,List.getD_eq_getElem?_getD,List.getElem?_map];cases xs[i.toNat]? <;>rfl
theorem rd_cB (xs:List S89) (i:Int):rd_T135 (xs.map cB) i=cB (rd_T89 xs i):=by
 unfold rd_T135 rd_T89;rw [List.getD_eq_getElem?_getD,List.getD_eq_getElem?_getD,List.getElem?_map];cases xs[i.toNat]? <;>rfl
theorem rd_cC (xs:List S54) (i:Int):rd_T126 (xs.map cC) i=cC (rd_T54 xs i):=by
 unfold rd_T126 rd_T54;rw [List.getD_eq_getElem?_getD,List.getD_eq_getElem?_getD,List.getElem?_map];cases xs[i.toNat]? <;>rfl
theorem rd_cW (xs:List S108) (i:Int):rd_T137 (xs.map cW) i=cW (rd_T108 xs i):=by
 unfold rd_T137 rd_T108;rw [List.getD_eq_getElem?_getD,List.getD_eq_getElem?_getD,List.getElem?_map];cases xs[i.toNat]? <;>rfl
theorem In_some (n lo hi:Int):anilref06_In.f n lo hi=some (decide (lo≤n∧n≤hi)):=by
 unfold anilref06_In.f
 by_cases h:lo≤n<;>simp [h]
theorem Inside_some (lo hi most:Int):anilref06_Inside.f lo hi most=some (decide (0≤lo∧lo≤hi∧hi≤most)):=by
 unfold anilref06_Inside.f
 by_cases h:0≤lo<;>by_cases h2:lo≤hi<;>simp [h,h2]
theorem In_at (n lo hi:Int) (w:World):Calls Try.prog 29 #[.int .i64 n,.int .i64 lo,.int .i64 hi] w fun e w'=>e= .returned (.bool (decide (lo≤n∧n≤hi)))∧Drawn0 w w':=anilref06_In.calls n lo hi _ w (In_some n lo hi)
theorem In_below (n lo hi:Int) (w:World):Calls Try.prog 29 #[.int .i64 n,.int .i64 lo,.int .i64 hi] w fun e w'=>e= .returned (.bool (decide (lo≤n∧n≤hi)))∧Below w.heap.size w w':=
 (In_at n lo hi w).mono (fun e w' hh=>⟨hh.1,by obtain⟨nd,rfl⟩:=hh.2;exact pw_below_drewN (Below.refl _ _) nd⟩)
theorem Inside_at (lo hi most:Int) (w:World):Calls Try.prog 117 #[.agg #[.int .i64 lo,.int .i64 hi],.int .i64 most] w fun e w'=>e= .returned (.bool (decide (0≤lo∧lo≤hi∧hi≤most)))∧Below w.heap.size w w':=anilref06_Inside.calls lo hi most _ w (Inside_some lo hi most)
def RL.okPlace (r:RL) (place:List Int):Prop:=place.length=r.l3.length∧∀i:Nat,i < place.length→(0≤rd place i∧rd place i < r.l2.length)∧cnt place place.length (rd place i)≤(rd_T89 r.l2 (rd place i)).f0
instance (r:RL) (place:List Int):Decidable (r.okPlace place):=by unfold RL.okPlace;infer_instance
theorem okPlace_iff {r:RL} {place:List Int} (hr:∀s:Nat,s < r.l2.length→0≤(rd_T89 r.l2 s).f0):r.okPlace place↔r.sl.isPlace place:=by
 unfold RL.okPlace SL.isPlace RL.sl
 simp only [List.length_map,rd_cB]
 constructor
 ·rintro⟨h1,h2⟩
  refine⟨h1,fun i hi=>(h2 i hi).1,fun s hs=> ?_⟩
  by_cases hc:cnt place place.length s=0
  ·rw [hc];exact hr s hs
  ·have hm:(s:Int)∈place:=by
    unfold cnt at hc
    rw [Int.toNat_natCast,List.take_length]at hc
    exact List.count_pos_iff.1 (by omega)
   obtain⟨i,hi,e⟩:=List.mem_iff_getElem.1 hm
   have h3:=(h2 i hi).2
   have h4:rd place i=(s:Int):=by simp [rd,List.getElem?_eq_getElem hi,e]
   rw [h4]at h3
   exact h3
 ·rintro⟨h1,h2,h3⟩
  refine⟨h1,fun i hi=>⟨h2 i hi,?_⟩⟩
  have h4:=h2 i hi
  have h5:=h3 (rd place i).toNat (by omega)
  rw [Int.toNat_of_nonneg h4.1]at h5
  exact h5
set_option maxRecDepth 100000 in
set_option maxHeartbeats 6400000 in
theorem rIsPlace (x:SA) (r:RL) (B:Option Addr) (cB:Nat) (place:List Int) (w:World) (hr:RRd w x r) (h2:r.l2.length≤1000) (h3:r.l3.length≤1000) (hB:Kd.C (Kd.int .i64) w B place.length place):
  Calls Try.prog 26 #[.agg (r.cells x),.slice B place.length cB] w fun e w'=>e= .returned (.bool (decide (r.okPlace place)))∧Below w.heap.size w w':=by
 obtain⟨A1,c1,A2,c2,A3,c3,A4,c4,A5,c5⟩:=x
 have HB:=Aside0.mk (Below.refl w.heap.size w)
 have HR:=Aside0.mk hr
 have HRB:=Aside0.mk hB
 obtain⟨b,hb⟩:∃b,b=decide (r.okPlace place):=⟨_,rfl⟩
 have HBD:=Aside0.mk hb
 rw [←hb]
 clear hr hB hb
 go_enter Try.func26,Try.ntmps26
 go_upto_region 1 with(first|((with_reducible refine gate_dst (N:=2) rfl ?_);refine box_event ?hg (N:=2) ?hd (cs:=#[.int .i64 r.a0,.slice A1 r.l1.length c1,.slice A2 r.l2.length c2,.slice A3 r.l3.length c3,.slice A4 r.l4.length c4,.slice A5 r.l5.length c5]) (t:=28) ?hr ?_;(case hd=>rfl);(case hg=>rfl);(case hr=>first|(go_simp;done)|(go_simp;rfl));intro g2 hg_ w2 hbx_ hb_;have BK2:=Aside0.mk hbx_;have g2ge:w.heap.size≤g2:=(by have:=below_size HB.out;omega);have g2GE:=Aside0.mk g2ge;clear g2ge;have HBn:=Aside0.mk (below_step HB.out hb_);clear HB hg_ hb_ hbx_;have HB:=HBn;clear HBn;have f2:w2.cell? ⟨g2,2,none⟩=some (.slice A2 r.l2.length c2):=(blk_cell BK2.out 2).trans rfl;have f3:w2.cell? ⟨g2,3,none⟩=some (.slice A3 r.l3.length c3):=(blk_cell BK2.out 3).trans rfl))
 by_cases hlen:place.length=r.l3.length
 ·have hlb:((place.length:Int) !=(r.l3.length:Int))=false:=by rw [hlen];exact bne_self_eq_false _
  have HLEN:=Aside0.mk hlen
  have hp3:place.length≤1000:=by omega
  clear hlen
  go_wp2
  clear f2 f3
  go_loopw [5] (fun v5 wr=>∃i:Nat,v5= .int .i64 (i:Int)∧i≤place.length∧Aside0 (∀j:Nat,j < i→(0≤rd place j∧rd place j < r.l2.length)∧cnt place place.length (rd place j)≤(rd_T89 r.l2 (rd place j)).f0)∧Aside0 (wr.heap[g2]? =some (.cells #[.int .i64 r.a0,.slice A1 r.l1.length c1,.slice A2 r.l2.length c2,.slice A3 r.l3.length c3,.slice A4 r.l4.length c4,.slice A5 r.l5.length c5] 28 (0,0)))∧Aside0 (Below w.heap.size w wr)) (fun v5 _=>(place.length-intOf v5).toNat)
  case atStart=>exact⟨0,rfl,Nat.zero_le _,⟨fun j hj=>absurd hj (Nat.not_lt_zero _)⟩,BK2,HB⟩
  case round=>
   clear BK2 HB
   obtain⟨i,rfl,hi,HS,BK2,HB⟩:=hrel
   by_cases hlt:i < place.length
   ·obtain⟨adp,ep,fp⟩:=rowB (Kd.C_below HRB.out HB.out) (i:Int) (by omega) (by omega)
    subst ep
    rw [Int.toNat_natCast]at fp
    have f2:wr.cell? ⟨g2,2,none⟩=some (.slice A2 r.l2.length c2):=(blk_cell BK2.out 2).trans rfl
    have hlti:(i:Int) <(place.length:Int):=by omega
    have hwi:IntKind.i64.wrap ((i:Int)+1)=(i:Int)+1:=IntWalk.i64_in _ (by omega)
    have hwl:IntKind.i64.wrap ((r.l2.length:Int)-1)=(r.l2.length:Int)-1:=IntWalk.i64_in _ (by omega)
    obtain⟨bi,hbi⟩:∃bi,bi=decide (0≤rd place (i:Int)∧rd place (i:Int)≤(r.l2.length:Int)-1):=⟨_,rfl⟩
    have HIN:=Aside0.mk hbi
    clear hbi
    cases bi with
    |false=>
     have HV:=Aside0.mk (show b=false by
      rw [HBD.out]
      refine decide_eq_false (fun h=>of_decide_eq_false HIN.out.symm ?_)
      have:=(h.2 i hlt).1
      omega)
     go_wp2_with fail
     repeat(go_quiet (first|(go_at_call 29;refine(In_at (rd place (i:Int)) 0 ((r.l2.length:Int)-1) _).mono ?_;rw [←HIN.out];rintro e w' ⟨rfl,⟨nd,rfl⟩⟩;(try first|exact⟨rfl,_,World.drewN_drewN _ _ _⟩|exact⟨rfl,_,Eq.trans (World.drewN_drewN _ _ _) (congrArg (World.drewN _) (Nat.add_assoc _ _ _))⟩)));try go_wp2)
     go_ret
     exact⟨by rw [HV.out];rfl,pw_below_drewN HB.out _⟩
    |true=>
     have hin:=of_decide_eq_true HIN.out.symm
     go_wp2_with fail
     repeat(go_quiet (first|(go_at_call 29;refine(In_at (rd place (i:Int)) 0 ((r.l2.length:Int)-1) _).mono ?_;rw [←HIN.out];rintro e w' ⟨rfl,⟨nd,rfl⟩⟩;(try first|exact⟨rfl,_,World.drewN_drewN _ _ _⟩|exact⟨rfl,_,Eq.trans (World.drewN_drewN _ _ _) (congrArg (World.drewN _) (Nat.add_assoc _ _ _))⟩)));try go_wp2_with fail)
     have hbd:=pw_below_drewN (Below.refl wr.heap.size wr) nq
     replace BK2:=Aside0.mk (blk_below BK2.out hbd)
     replace HB:=Aside0.mk (below_step HB.out hbd)
     clear f2 fp
     generalize wr.drewN nq=wi at BK2 HB ⊢
     clear hbd
     obtain⟨p,hp⟩:∃p,p=rd place (i:Int):=⟨_,rfl⟩
     have HPI:=Aside0.mk hp
     rw [←hp]at hin ⊢
     clear hp
     have hc0:(cnt place 0 p)=0:=cnt_zero _ _
     go_loopw [6,7] (fun v6 v7 wr=>∃k:Nat,v6= .int .i64 (cnt place (k:Int) p)∧v7= .int .i64 (k:Int)∧k≤place.length∧Aside0 (wr.heap[g2]? =some (.cells #[.int .i64 r.a0,.slice A1 r.l1.length c1,.slice A2 r.l2.length c2,.slice A3 r.l3.length c3,.slice A4 r.l4.length c4,.slice A5 r.l5.length c5] 28 (0,0)))∧Aside0 (Below w.heap.size w wr)) (fun _ v7 _=>(place.length-intOf v7).toNat)
     case atStart=>exact⟨0,by rw [show((0:Nat):Int)=0 from rfl,hc0],rfl,Nat.zero_le _,BK2,HB⟩
     case round=>
      clear BK2 HB hc0
      obtain⟨k,rfl,rfl,hk,BK2,HB⟩:=hrel
      obtain⟨ad2,e2,fi⟩:=rowB (Kd.C_below HRB.out HB.out) (i:Int) (by omega) (by omega)
      obtain rfl:adp=ad2:=Option.some.inj e2
      rw [Int.toNat_natCast,←HPI.out]at fi
      clear e2
      by_cases hkl:k < place.length
      ·obtain⟨ad2,e2,fk⟩:=rowB (Kd.C_below HRB.out HB.out) (k:Int) (by omega) (by omega)
       obtain rfl:adp=ad2:=Option.some.inj e2
       rw [Int.toNat_natCast]at fk
       clear e2
       have hcs:=cnt_step (place:=place) (i:=(k:Int)) (by omega) (by omega) p
       have hc1:=cnt_le place (k:Int) p (by omega)
       have hc2:=cnt_nonneg place (k:Int) p
       obtain⟨m,hm⟩:∃m,m=cnt place (k:Int) p:=⟨_,rfl⟩
       obtain⟨pk,hpk⟩:∃pk,pk=rd place (k:Int):=⟨_,rfl⟩
       rw [←hm,←hpk]at hcs
       rw [←hm]at hc1 hc2 ⊢
       rw [←hpk]at fk
       have HCS:=Aside0.mk hcs
       clear hcs hm hpk
       have hkli:(k:Int) <(place.length:Int):=by omega
       have hwk:IntKind.i64.wrap ((k:Int)+1)=(k:Int)+1:=IntWalk.i64_in _ (by omega)
       have hwm:IntKind.i64.wrap (m+1)=m+1:=IntWalk.i64_in _ (by omega)
       have hcast:((k+1:Nat):Int)=(k:Int)+1:=by omega
       by_cases hpp:pk=p
       ·have hppb:(pk==p)=true:=by rw [hpp];exact beq_self_eq_true _
        have HC:=Aside0.mk (show cnt place ((k:Int)+1) p=m+1 by rw [HCS.out,if_pos hpp])
        clear hpp
        go_wp2_with fail
        repeat(go_quiet (fail);try go_wp2)
        exact⟨⟨k+1,by rw [hcast,HC.out],by rw [hcast],by omega,⟨blk_drewN BK2.out _⟩,⟨pw_below_drewN HB.out _⟩⟩,by simp [intOf];omega⟩
       ·have hppb:(pk==p)=false:=by rw [beq_eq_false_iff_ne];exact hpp
        have HC:=Aside0.mk (show cnt place ((k:Int)+1) p=m by rw [HCS.out,if_neg hpp];omega)
        clear hpp
        go_wp2_with fail
        repeat(go_quiet (fail);try go_wp2)
        exact⟨⟨k+1,by rw [hcast,HC.out],by rw [hcast],by omega,⟨blk_drewN BK2.out _⟩,⟨pw_below_drewN HB.out _⟩⟩,by simp [intOf];omega⟩
      ·have hke:k=place.length:=by omega
       subst hke
       obtain⟨adb,eb,fb0,fb1⟩:=at_T89 (RRd.below HR.out HB.out).r2 p (by omega) (by omega)
       simp only at eb
       subst eb
       clear fb1
       have hkli:(place.length:Int)≤(place.length:Int):=Int.le_refl _
       have f2:wr.cell? ⟨g2,2,none⟩=some (.slice (some adb) r.l2.length c2):=(blk_cell BK2.out 2).trans rfl
       obtain⟨m,hm⟩:∃m,m=cnt place (place.length:Int) p:=⟨_,rfl⟩
       obtain⟨ro,hro⟩:∃ro,ro=(rd_T89 r.l2 p).f0:=⟨_,rfl⟩
       rw [←hm]
       rw [←hro]at fb0
       have HM:=Aside0.mk hm
       have HRO:=Aside0.mk hro
       clear hm hro
       by_cases hgt:ro < m
       ·have HV:=Aside0.mk (show b=false by
         rw [HBD.out]
         refine decide_eq_false (fun h=> ?_)
         have:=(h.2 i hlt).2
         rw [←HPI.out,←HM.out,←HRO.out]at this
         omega)
        go_wp2_with fail
        repeat(go_quiet (fail);try go_wp2)
        go_ret
        exact⟨by rw [HV.out];rfl,pw_below_drewN HB.out _⟩
       ·go_wp2_with fail
        repeat(go_quiet (fail);try go_wp2)
        refine⟨⟨i+1,by simp,by omega,⟨fun j hj=> ?_⟩,⟨blk_drewN BK2.out _⟩,⟨pw_below_drewN HB.out _⟩⟩,by simp [intOf];omega⟩
        by_cases hji:j < i
        ·exact HS.out j hji
        ·obtain rfl:j=i:=by omega
         rw [←HPI.out,←HM.out,←HRO.out]
         exact⟨⟨hin.1,by omega⟩,by omega⟩
   ·have hie:i=place.length:=by omega
    have HV:=Aside0.mk (show b=true by rw [HBD.out];exact decide_eq_true ⟨HLEN.out,fun j hj=>HS.out j (by omega)⟩)
    subst hie
    have hlti:(place.length:Int)≤(place.length:Int):=Int.le_refl _
    go_wp2
    go_ret
    exact⟨by rw [HV.out];rfl,HB.out⟩
 ·have hlb:((place.length:Int) !=(r.l3.length:Int))=true:=by rw [bne_iff_ne];omega
  have HV:=Aside0.mk (show b=false by rw [HBD.out];exact decide_eq_false (fun h=>hlen h.1))
  clear hlen
  go_wp2
  go_ret
  exact⟨by rw [HV.out];rfl,HB.out⟩
end Go.Proofs.Ytjifalohjlihaaa.Q
end
section
namespace Go.Proofs.Ytjifalohjlihaaa.Q
set_option linter.unusedVariables false
open Go.BigFrame Go.RowKit Go.Shelf Go.Proofs.YtjifalohjlihaaaW.PrintWords Go.Proofs.YtjifalohjlihaaaW.PrintLast Go.Proofs.YtjifalohjlihaaaW.PrintMore
attribute [local go_sem] max2_int min2_int max_two min_two
def many1 (m lo hi:Int):Int:=mn 3000 (m*(hi-lo+1))
def manyA (xs:List S52) (m:Int):Int:=xs.foldl (fun m x=>many1 m x.f0 x.f1) m
def manyC (xs:List S54) (m:Int):Int:=xs.foldl (fun m x=>many1 m x.f1.f0 x.f1.f1) m
def RL.many (r:RL):Int:=manyC r.l3 (manyA r.l1 1)
theorem many1_small {m lo hi:Int} (m0:0≤m) (h1:lo≤hi):0≤many1 m lo hi∧many1 m lo hi≤3000:=by
 have h:0≤m*(hi-lo+1):=Int.mul_nonneg m0 (by omega)
 unfold many1 mn;split<;>omega
theorem mul_small {m lo hi:Int} (m0:0≤m) (m1:m≤3000) (h0:0≤lo) (h1:lo≤hi) (h2:hi≤40):0≤m*(hi-lo+1)∧m*(hi-lo+1)≤123000:=by
 refine⟨Int.mul_nonneg m0 (by omega),?_⟩
 have:=Int.mul_le_mul (a:=m) (b:=hi-lo+1) (c:=3000) (d:=41) m1 (by omega) (by omega) (by omega)
 omega
theorem manyA_take (xs:List S52) (m:Int) (i:Nat) (h:i < xs.length):manyA (xs.take (i+1)) m=many1 (manyA (xs.take i) m) (rd_T52 xs (i:Int)).f0 (rd_T52 xs (i:Int)).f1:=by
 unfold manyA rd_T52
 rw [List.take_succ_eq_append_getElem h,List.foldl_append,Int.toNat_natCast,List.getD_eq_getElem?_getD,List.getElem?_eq_getElem h];rfl
theorem manyC_take (xs:List S54) (m:Int) (i:Nat) (h:i < xs.length):manyC (xs.take (i+1)) m=many1 (manyC (xs.take i) m) (rd_T54 xs (i:Int)).f1.f0 (rd_T54 xs (i:Int)).f1.f1:=by
 unfold manyC rd_T54
 rw [List.take_succ_eq_append_getElem h,List.foldl_append,Int.toNat_natCast,List.getD_eq_getElem?_getD,List.getElem?_eq_getElem h];rfl
theorem Size_at (lo hi:Int) (h0:0≤lo) (h1:lo≤hi) (h2:hi≤40) (w:World):Calls Try.prog 95 #[.agg #[.int .i64 lo,.int .i64 hi]] w fun e w'=>e= .returned (.int .i64 (hi-lo+1))∧Below w.heap.size w w':=
 anilref06_Size.calls lo hi _ w (by unfold anilref06_Size.f wrap64;congr 1;omega)
structure Sized (r:RL):Prop where
 len1:r.l1.length≤1000
 len3:r.l3.length≤1000
 airs:∀i:Nat,i < r.l1.length→0≤(rd_T52 r.l1 (i:Int)).f0∧(rd_T52 r.l1 (i:Int)).f0≤(rd_T52 r.l1 (i:Int)).f1∧(rd_T52 r.l1 (i:Int)).f1≤40
 cakes:∀i:Nat,i < r.l3.length→0≤(rd_T54 r.l3 (i:Int)).f1.f0∧(rd_T54 r.l3 (i:Int)).f1.f0≤(rd_T54 r.l3 (i:Int)).f1.f1∧(rd_T54 r.l3 (i:Int)).f1.f1≤40
set_option maxRecDepth 100000 in
set_option maxHeartbeats 6400000 in
theorem rMany (x:SA) (r:RL) (w:World) (hr:RRd w x r) (hs:Sized r):
  Calls Try.prog 49 #[.agg (r.cells x)] w fun e w'=>e= .returned (.int .i64 r.many)∧Below w.heap.size w w':=by
 obtain⟨A1,c1,A2,c2,A3,c3,A4,c4,A5,c5⟩:=x
 have HB:=Aside0.mk (Below.refl w.heap.size w)
 have HR:=Aside0.mk hr
 have SZ:=Aside0.mk hs
 have l1:=hs.len1
 have l3:=hs.len3
 clear hr hs
 go_enter Try.func49,Try.ntmps49
 go_wp2_with (first|((with_reducible refine gate_dst (N:=1) rfl ?_);refine box_event ?hg (N:=1) ?hd (cs:=#[.int .i64 r.a0,.slice A1 r.l1.length c1,.slice A2 r.l2.length c2,.slice A3 r.l3.length c3,.slice A4 r.l4.length c4,.slice A5 r.l5.length c5]) (t:=28) ?hr ?_;(case hd=>rfl);(case hg=>rfl);(case hr=>first|(go_simp;done)|(go_simp;rfl));intro g1 hg_ w1 hbx_ hb_;have BK1:=Aside0.mk hbx_;have g1ge:w.heap.size≤g1:=(by have:=below_size HB.out;omega);have g1GE:=Aside0.mk g1ge;clear g1ge;have HBn:=Aside0.mk (below_step HB.out hb_);clear HB hg_ hb_ hbx_;have HB:=HBn;clear HBn))
 go_loopw [3,4] (fun v3 v4 wr=>∃i:Nat,v3= .int .i64 (manyA (r.l1.take i) 1)∧v4= .int .i64 (i:Int)∧i≤r.l1.length∧Aside0 (0≤manyA (r.l1.take i) 1∧manyA (r.l1.take i) 1≤3000)∧Aside0 (wr.heap[g1]? =some (.cells #[.int .i64 r.a0,.slice A1 r.l1.length c1,.slice A2 r.l2.length c2,.slice A3 r.l3.length c3,.slice A4 r.l4.length c4,.slice A5 r.l5.length c5] 28 (0,0)))∧Aside0 (Below w.heap.size w wr)) (fun _ v4 _=>(r.l1.length-intOf v4).toNat)
 case atStart=>exact⟨0,rfl,rfl,Nat.zero_le _,⟨⟨by simp [manyA],by simp [manyA]⟩⟩,BK1,HB⟩
 case round=>
  clear BK1 HB
  obtain⟨i,rfl,rfl,hi,HM,BK1,HB⟩:=hrel
  by_cases hlt:i < r.l1.length
  ·obtain⟨ad,e,fr0,fr1⟩:=at_T52 (RRd.below HR.out HB.out).r1 (i:Int) (by omega) (by omega)
   simp only at e
   subst e
   have fl:wr.cell? ⟨g1,1,none⟩=some (.slice (some ad) r.l1.length c1):=(blk_cell BK1.out 1).trans rfl
   have hz:=SZ.out.airs i hlt
   have HSTEP:=Aside0.mk (manyA_take r.l1 1 i hlt)
   obtain⟨m,hm⟩:∃m,m=manyA (r.l1.take i) 1:=⟨_,rfl⟩
   obtain⟨lo,hlo⟩:∃lo,lo=(rd_T52 r.l1 (i:Int)).f0:=⟨_,rfl⟩
   obtain⟨hi2,hhi⟩:∃hi2,hi2=(rd_T52 r.l1 (i:Int)).f1:=⟨_,rfl⟩
   rw [←hm]at HM HSTEP ⊢
   simp only [Int.toNat_natCast,←hlo,←hhi]at fr0 fr1 hz HSTEP
   obtain⟨m0,m1⟩:=HM.out
   obtain⟨z0,z1,z2⟩:=hz
   have hsm:=mul_small m0 m1 z0 z1 z2
   have HM2:=Aside0.mk (many1_small m0 z1)
   clear hm hlo hhi
   have hli:(i:Int) <(r.l1.length:Int):=by omega
   have hwi:IntKind.i64.wrap ((i:Int)+1)=(i:Int)+1:=IntWalk.i64_in _ (by omega)
   have hwm:IntKind.i64.wrap (m*(hi2-lo+1))=m*(hi2-lo+1):=IntWalk.i64_in _ (by omega)
   go_wp2_with (go_at_call 95;go_must (refine(Size_at lo hi2 z0 z1 z2 _).mono ?_;clear fr0 fr1 fl;rintro e ws ⟨rfl,hb⟩;replace BK1:=Aside0.mk (blk_below BK1.out hb);replace HB:=Aside0.mk (below_step HB.out hb);clear hb))
   exact⟨⟨i+1,by rw [HSTEP.out];rfl,by simp,by omega,by rw [HSTEP.out];exact HM2,BK1,HB⟩,by simp [intOf];omega⟩
  ·have hie:i=r.l1.length:=by omega
   subst hie
   rw [List.take_length]at HM ⊢
   have fl:wr.cell? ⟨g1,1,none⟩=some (.slice A1 r.l1.length c1):=(blk_cell BK1.out 1).trans rfl
   have hli:(r.l1.length:Int)≤(r.l1.length:Int):=Int.le_refl _
   go_wp2
   clear fl
   have HM1:=HM
   clear HM
   go_loopw [3,5] (fun v3 v5 wr=>∃i:Nat,v3= .int .i64 (manyC (r.l3.take i) (manyA r.l1 1))∧v5= .int .i64 (i:Int)∧i≤r.l3.length∧Aside0 (0≤manyC (r.l3.take i) (manyA r.l1 1)∧manyC (r.l3.take i) (manyA r.l1 1)≤3000)∧Aside0 (wr.heap[g1]? =some (.cells #[.int .i64 r.a0,.slice A1 r.l1.length c1,.slice A2 r.l2.length c2,.slice A3 r.l3.length c3,.slice A4 r.l4.length c4,.slice A5 r.l5.length c5] 28 (0,0)))∧Aside0 (Below w.heap.size w wr)) (fun _ v5 _=>(r.l3.length-intOf v5).toNat)
   case atStart=>exact⟨0,rfl,rfl,Nat.zero_le _,HM1,BK1,HB⟩
   case round=>
    clear BK1 HB
    obtain⟨i,rfl,rfl,hi,HM,BK1,HB⟩:=hrel
    by_cases hlt:i < r.l3.length
    ·obtain⟨ad,e,frx,fr0,fr1,fry⟩:=at_T54 (RRd.below HR.out HB.out).r3 (i:Int) (by omega) (by omega)
     simp only at e
     subst e
     have fl:wr.cell? ⟨g1,3,none⟩=some (.slice (some ad) r.l3.length c3):=(blk_cell BK1.out 3).trans rfl
     have hz:=SZ.out.cakes i hlt
     have HSTEP:=Aside0.mk (manyC_take r.l3 (manyA r.l1 1) i hlt)
     obtain⟨m,hm⟩:∃m,m=manyC (r.l3.take i) (manyA r.l1 1):=⟨_,rfl⟩
     obtain⟨lo,hlo⟩:∃lo,lo=(rd_T54 r.l3 (i:Int)).f1.f0:=⟨_,rfl⟩
     obtain⟨hi2,hhi⟩:∃hi2,hi2=(rd_T54 r.l3 (i:Int)).f1.f1:=⟨_,rfl⟩
     rw [←hm]at HM HSTEP ⊢
     simp only [Int.toNat_natCast,←hlo,←hhi]at fr0 fr1 hz HSTEP
     obtain⟨m0,m1⟩:=HM.out
     obtain⟨z0,z1,z2⟩:=hz
     have hsm:=mul_small m0 m1 z0 z1 z2
     have HM2:=Aside0.mk (many1_small m0 z1)
     clear hm hlo hhi
     have hli:(i:Int) <(r.l3.length:Int):=by omega
     have hwi:IntKind.i64.wrap ((i:Int)+1)=(i:Int)+1:=IntWalk.i64_in _ (by omega)
     have hwm:IntKind.i64.wrap (m*(hi2-lo+1))=m*(hi2-lo+1):=IntWalk.i64_in _ (by omega)
     go_wp2_with (go_at_call 95;go_must (refine(Size_at lo hi2 z0 z1 z2 _).mono ?_;clear fr0 fr1 fl;rintro e ws ⟨rfl,hb⟩;replace BK1:=Aside0.mk (blk_below BK1.out hb);replace HB:=Aside0.mk (below_step HB.out hb);clear hb))
     exact⟨⟨i+1,by rw [HSTEP.out];rfl,by simp,by omega,by rw [HSTEP.out];exact HM2,BK1,HB⟩,by simp [intOf];omega⟩
    ·have hie:i=r.l3.length:=by omega
     subst hie
     rw [List.take_length]at HM ⊢
     have fl:wr.cell? ⟨g1,3,none⟩=some (.slice A3 r.l3.length c3):=(blk_cell BK1.out 3).trans rfl
     have hli:(r.l3.length:Int)≤(r.l3.length:Int):=Int.le_refl _
     go_wp2
     go_ret
     exact⟨rfl,HB.out⟩
end Go.Proofs.Ytjifalohjlihaaa.Q
end
section
namespace Go.Proofs.Ytjifalohjlihaaa.Q
set_option linter.unusedVariables false
open Go.BigFrame Go.RowKit Go.Shelf Go.Proofs.YtjifalohjlihaaaW.PrintWords Go.Proofs.YtjifalohjlihaaaW.PrintLast Go.Proofs.YtjifalohjlihaaaW.PrintMore
def RL.over (r:RL):Prop:=r.a0 > 5∨r.l2.length > 3∨r.l3.length > 5∨r.l5.length > 5
theorem fault_over {r:RL} (h:r.over):r.sl.fault=3:=by
 unfold SL.fault RL.sl
 simp only [List.length_map]
 exact if_pos h
theorem fault_one {r:RL} (hA:¬r.over) (h:(r.a0 < 0∨(r.l1.length:Int)≠r.a0+1∨allB (okRange 9) r.sl.l1=false∨allB okBoard r.sl.l2=false)∨(allB r.sl.okCake r.sl.l3=false∨¬r.sl.isPlace r.sl.l4∨allB r.sl.okWeight r.sl.l5=false)):r.sl.fault=1:=by
 unfold SL.fault
 rw [if_neg (by unfold RL.sl;simp only [List.length_map];exact hA)]
 split
 ·rfl
 ·rename_i h1
  rw [if_pos]
  rcases h with h|h
  ·exact absurd (by unfold RL.sl;simp only [List.length_map];exact h) h1
  ·exact h
theorem allB_not {α:Type} {ok:α→Bool} {xs:List α} (z:α) (i:Nat) (h:i < xs.length) (hb:ok (xs.getD i z)=false):allB ok xs=false:=by
 cases he:allB ok xs with
 |false=>rfl
 |true=>
  have:=allB_at he z (i:Int) (by omega) (by omega)
  rw [Int.toNat_natCast,hb]at this
  cases this
theorem allB_all {α:Type} {ok:α→Bool} {xs:List α} (z:α) (h:∀i:Nat,i < xs.length→ok (xs.getD i z)=true):allB ok xs=true:=by
 unfold allB
 rw [List.all_eq_true]
 intro x hx
 obtain⟨i,hi,e⟩:=List.mem_iff_getElem.1 hx
 have:=h i hi
 rw [List.getD_eq_getElem?_getD,List.getElem?_eq_getElem hi]at this
 rw [←e];exact this
def RL.okA (r:RL) (i:Nat):Prop:=0≤(rd_T52 r.l1 (i:Int)).f0∧(rd_T52 r.l1 (i:Int)).f0≤(rd_T52 r.l1 (i:Int)).f1∧(rd_T52 r.l1 (i:Int)).f1≤9
def RL.okB (r:RL) (i:Nat):Prop:=(0≤(rd_T89 r.l2 (i:Int)).f0∧(rd_T89 r.l2 (i:Int)).f0≤5)∧0≤(rd_T89 r.l2 (i:Int)).f1∧(rd_T89 r.l2 (i:Int)).f1≤4
def RL.okC (r:RL) (i:Nat):Prop:=(0≤(rd_T54 r.l3 (i:Int)).f0∧(rd_T54 r.l3 (i:Int)).f0≤r.a0)∧(0≤(rd_T54 r.l3 (i:Int)).f1.f0∧(rd_T54 r.l3 (i:Int)).f1.f0≤(rd_T54 r.l3 (i:Int)).f1.f1∧(rd_T54 r.l3 (i:Int)).f1.f1≤40)∧1≤(rd_T54 r.l3 (i:Int)).f2∧(rd_T54 r.l3 (i:Int)).f2≤6
def RL.okW (r:RL) (i:Nat):Prop:=(0≤(rd_T108 r.l5 (i:Int)).f0∧(rd_T108 r.l5 (i:Int)).f0≤(r.l3.length:Int)-1)∧((rd_T54 r.l3 (rd_T108 r.l5 (i:Int)).f0).f0≤(rd_T108 r.l5 (i:Int)).f1∧(rd_T108 r.l5 (i:Int)).f1≤r.a0)∧0≤(rd_T108 r.l5 (i:Int)).f2.f0∧(rd_T108 r.l5 (i:Int)).f2.f0≤(rd_T108 r.l5 (i:Int)).f2.f1∧(rd_T108 r.l5 (i:Int)).f2.f1≤40
theorem at_air (r:RL) (i:Nat):okRange 9 (r.sl.l1.getD i z56)=true↔r.okA i:=by
 have h:=rd_cR r.l1 (i:Int)
 unfold rd_T56 at h
 rw [Int.toNat_natCast]at h
 show okRange 9 ((r.l1.map cR).getD i z56)=true↔_
 rw [h];unfold okRange RL.okA cR;rw [decide_eq_true_eq]
theorem at_board (r:RL) (i:Nat):okBoard (r.sl.l2.getD i z135)=true↔r.okB i:=by
 have h:=rd_cB r.l2 (i:Int)
 unfold rd_T135 at h
 rw [Int.toNat_natCast]at h
 show okBoard ((r.l2.map cB).getD i z135)=true↔_
 rw [h];unfold okBoard RL.okB cB;rw [decide_eq_true_eq,and_assoc]
theorem at_cake (r:RL) (i:Nat):r.sl.okCake (r.sl.l3.getD i z126)=true↔r.okC i:=by
 have h:=rd_cC r.l3 (i:Int)
 unfold rd_T126 at h
 rw [Int.toNat_natCast]at h
 show r.sl.okCake ((r.l3.map cC).getD i z126)=true↔_
 rw [h];unfold SL.okCake RL.okC cC cR;rw [decide_eq_true_eq]
 exact⟨fun ⟨h1,h2,h3,h4⟩=>⟨⟨h1,h2⟩,h3,h4⟩,fun ⟨⟨h1,h2⟩,h3,h4⟩=>⟨h1,h2,h3,h4⟩⟩
theorem at_weight (r:RL) (i:Nat):r.sl.okWeight (r.sl.l5.getD i z137)=true↔r.okW i:=by
 have h:=rd_cW r.l5 (i:Int)
 unfold rd_T137 at h
 rw [Int.toNat_natCast]at h
 show r.sl.okWeight ((r.l5.map cW).getD i z137)=true↔_
 rw [h];unfold SL.okWeight RL.okW cW cR RL.sl
 simp only [List.length_map,rd_cC]
 rw [decide_eq_true_eq]
 unfold cC
 constructor
 ·rintro⟨h1,h2,h3,h4,h5⟩;exact⟨⟨h1,by omega⟩,⟨h3,h4⟩,h5⟩
 ·rintro⟨⟨h1,h2⟩,⟨h3,h4⟩,h5⟩;exact⟨h1,by omega,h3,h4,h5⟩
theorem fault_air {r:RL} (hA:¬r.over) {i:Nat} (hi:i < r.l1.length) (h:¬r.okA i):r.sl.fault=1:=
 fault_one hA (.inl (.inr (.inr (.inl (allB_not z56 i (by unfold RL.sl;simpa using hi) (by cases hb:okRange 9 (r.sl.l1.getD i z56)with|false=>rfl|true=>exact absurd ((at_air r i).1 hb) h))))))
theorem fault_board {r:RL} (hA:¬r.over) {i:Nat} (hi:i < r.l2.length) (h:¬r.okB i):r.sl.fault=1:=
 fault_one hA (.inl (.inr (.inr (.inr (allB_not z135 i (by unfold RL.sl;simpa using hi) (by cases hb:okBoard (r.sl.l2.getD i z135)with|false=>rfl|true=>exact absurd ((at_board r i).1 hb) h))))))
theorem fault_cake {r:RL} (hA:¬r.over) {i:Nat} (hi:i < r.l3.length) (h:¬r.okC i):r.sl.fault=1:=
 fault_one hA (.inr (.inl (allB_not z126 i (by unfold RL.sl;simpa using hi) (by cases hb:r.sl.okCake (r.sl.l3.getD i z126)with|false=>rfl|true=>exact absurd ((at_cake r i).1 hb) h))))
theorem fault_weight {r:RL} (hA:¬r.over) {i:Nat} (hi:i < r.l5.length) (h:¬r.okW i):r.sl.fault=1:=
 fault_one hA (.inr (.inr (.inr (allB_not z137 i (by unfold RL.sl;simpa using hi) (by cases hb:r.sl.okWeight (r.sl.l5.getD i z137)with|false=>rfl|true=>exact absurd ((at_weight r i).1 hb) h)))))
theorem many_rel:∀(xs:List S56) (m m':Int),(∀x∈xs,x.f0≤x.f1)→(0≤m∧0≤m')→((m=m'∧m≤2000)∨(2000 < m∧2000 < m'))→(2000 < manyOf xs m↔2000 < xs.foldl (fun m x=>many1 m x.f0 x.f1) m'):=by
 intro xs
 induction xs with
 |nil=>intro m m' _ _ h;unfold manyOf;simp only [List.foldl_nil];omega
 |cons x t ih=>
  intro m m' hx h0 h
  unfold manyOf
  rw [List.foldl_cons]
  have hs:=hx x (List.mem_cons_self ..)
  have hs1:1≤x.f1-x.f0+1:=by omega
  have p0:0≤m*(x.f1-x.f0+1):=Int.mul_nonneg h0.1 (by omega)
  have q0:0≤m'*(x.f1-x.f0+1):=Int.mul_nonneg h0.2 (by omega)
  have p1:m≤m*(x.f1-x.f0+1):=by have:=Int.mul_le_mul_of_nonneg_left hs1 h0.1;omega
  have q1:m'≤m'*(x.f1-x.f0+1):=by have:=Int.mul_le_mul_of_nonneg_left hs1 h0.2;omega
  refine ih _ _ (fun y hy=>hx y (List.mem_cons_of_mem _ hy)) ?_ ?_
  ·unfold many1 mn
   constructor<;>split<;>omega
  ·unfold many1 mn
   rcases h with⟨rfl,h⟩|⟨h,h'⟩
   ·split<;>split<;>omega
   ·split<;>split<;>omega
theorem many_iff {r:RL} (h1:∀i:Nat,i < r.l1.length→r.okA i) (h3:∀i:Nat,i < r.l3.length→r.okC i):2000 < manyOf r.sl.ranges 1↔2000 < r.many:=by
 have hall:∀x∈r.sl.ranges,x.f0≤x.f1:=by
  intro x hx
  unfold SL.ranges RL.sl at hx
  rw [List.mem_append,List.map_map,List.mem_map,List.mem_map]at hx
  rcases hx with⟨y,hy,rfl⟩|⟨y,hy,rfl⟩
  ·obtain⟨i,hi,e⟩:=List.mem_iff_getElem.1 hy
   have:=(h1 i hi).2.1
   unfold rd_T52 at this
   rw [Int.toNat_natCast,List.getD_eq_getElem?_getD,List.getElem?_eq_getElem hi]at this
   rw [←e];exact this
  ·obtain⟨i,hi,e⟩:=List.mem_iff_getElem.1 hy
   have:=(h3 i hi).2.1.2.1
   unfold rd_T54 at this
   rw [Int.toNat_natCast,List.getD_eq_getElem?_getD,List.getElem?_eq_getElem hi]at this
   rw [←e];exact this
 rw [many_rel r.sl.ranges 1 1 hall (by decide) (.inl ⟨rfl,by decide⟩)]
 have e:r.sl.ranges.foldl (fun m x=>many1 m x.f0 x.f1) 1=r.many:=by
  unfold SL.ranges RL.sl RL.many manyC manyA
  simp only [List.foldl_append,List.foldl_map]
  rfl
 rw [e]
theorem fault_end {r:RL} (hA:¬r.over) (h0:¬r.a0 < 0) (hl:(r.l1.length:Int)=r.a0+1) (h1:∀i:Nat,i < r.l1.length→r.okA i) (h2:∀i:Nat,i < r.l2.length→r.okB i) (h3:∀i:Nat,i < r.l3.length→r.okC i) (hp:r.okPlace r.l4) (h5:∀i:Nat,i < r.l5.length→r.okW i):
  r.sl.fault=if 2000 < r.many then 3 else 0:=by
 have e1:allB (okRange 9) r.sl.l1=true:=allB_all z56 (fun i hi=>(at_air r i).2 (h1 i (by unfold RL.sl at hi;simpa using hi)))
 have e2:allB okBoard r.sl.l2=true:=allB_all z135 (fun i hi=>(at_board r i).2 (h2 i (by unfold RL.sl at hi;simpa using hi)))
 have e3:allB r.sl.okCake r.sl.l3=true:=allB_all z126 (fun i hi=>(at_cake r i).2 (h3 i (by unfold RL.sl at hi;simpa using hi)))
 have e5:allB r.sl.okWeight r.sl.l5=true:=allB_all z137 (fun i hi=>(at_weight r i).2 (h5 i (by unfold RL.sl at hi;simpa using hi)))
 have e4:r.sl.isPlace r.sl.l4:=(okPlace_iff (fun s hs=>(h2 s hs).1.1)).1 hp
 unfold SL.fault
 rw [if_neg (by unfold RL.sl;simp only [List.length_map];exact hA),if_neg (by rw [e1,e2];unfold RL.sl;simp only [List.length_map];exact fun h=>h.elim h0 (fun h=>h.elim (fun h=>h hl) (fun h=>h.elim (fun h=>by cases h) (fun h=>by cases h)))),if_neg (by rw [e3,e5];exact fun h=>h.elim (fun h=>by cases h) (fun h=>h.elim (fun h=>h e4) (fun h=>by cases h)))]
 by_cases hm:2000 < manyOf r.sl.ranges 1
 ·rw [if_pos hm,if_pos ((many_iff h1 h3).1 hm)]
 ·rw [if_neg hm,if_neg (fun h=>hm ((many_iff h1 h3).2 h))]
end Go.Proofs.Ytjifalohjlihaaa.Q
end
section
namespace Go.Proofs.Ytjifalohjlihaaa.Q
set_option linter.unusedVariables false
open Go.BigFrame Go.RowKit Go.Shelf Go.Proofs.YtjifalohjlihaaaW.PrintWords Go.Proofs.YtjifalohjlihaaaW.PrintLast Go.Proofs.YtjifalohjlihaaaW.PrintMore
set_option maxRecDepth 100000 in
set_option maxHeartbeats 6400000 in
theorem rFault (x:SA) (r:RL) (w:World) (hr:RRd w x r) (t1:r.l1.length≤1000) (t2:r.l2.length≤1000) (t3:r.l3.length≤1000) (t5:r.l5.length≤1000):
  Calls Try.prog 81 #[.agg (r.cells x)] w fun e w'=>e= .returned (.int .i64 r.sl.fault)∧Below w.heap.size w w':=by
 obtain⟨A1,c1,A2,c2,A3,c3,A4,c4,A5,c5⟩:=x
 have HB:=Aside0.mk (Below.refl w.heap.size w)
 have HR:=Aside0.mk hr
 obtain⟨er,her⟩:∃er,er=r.sl.fault:=⟨_,rfl⟩
 have HER:=Aside0.mk her
 rw [←her]
 clear hr her
 go_enter Try.func81,Try.ntmps81
 go_upto_region 1 with(first|((with_reducible refine gate_dst (N:=1) rfl ?_);refine box_event ?hg (N:=1) ?hd (cs:=#[.int .i64 r.a0,.slice A1 r.l1.length c1,.slice A2 r.l2.length c2,.slice A3 r.l3.length c3,.slice A4 r.l4.length c4,.slice A5 r.l5.length c5]) (t:=28) ?hr ?_;(case hd=>rfl);(case hg=>rfl);(case hr=>first|(go_simp;done)|(go_simp;rfl));intro g1 hg_ w1 hbx_ hb_;have BK1:=Aside0.mk hbx_;have g1ge:w.heap.size≤g1:=(by have:=below_size HB.out;omega);have g1GE:=Aside0.mk g1ge;clear g1ge;have HBn:=Aside0.mk (below_step HB.out hb_);clear HB hg_ hb_ hbx_;have HB:=HBn;clear HBn))
 have f0:w1.cell? ⟨g1,0,none⟩=some (.int .i64 r.a0):=(blk_cell BK1.out 0).trans rfl
 have f1:w1.cell? ⟨g1,1,none⟩=some (.slice A1 r.l1.length c1):=(blk_cell BK1.out 1).trans rfl
 have f2:w1.cell? ⟨g1,2,none⟩=some (.slice A2 r.l2.length c2):=(blk_cell BK1.out 2).trans rfl
 have f3:w1.cell? ⟨g1,3,none⟩=some (.slice A3 r.l3.length c3):=(blk_cell BK1.out 3).trans rfl
 have f5:w1.cell? ⟨g1,5,none⟩=some (.slice A5 r.l5.length c5):=(blk_cell BK1.out 5).trans rfl
 by_cases hA:r.over
 ·have HV:=Aside0.mk (show er=3 by rw [HER.out];exact fault_over hA)
  unfold RL.over at hA
  by_cases h1:r.a0 > 5
  ·go_wp2
   go_ret
   exact⟨by rw [HV.out];rfl,HB.out⟩
  by_cases h2:(r.l2.length:Int) > 3
  ·go_wp2
   go_ret
   exact⟨by rw [HV.out];rfl,HB.out⟩
  by_cases h3:(r.l3.length:Int) > 5
  ·go_wp2
   go_ret
   exact⟨by rw [HV.out];rfl,HB.out⟩
  have h4:(r.l5.length:Int) > 5:=by omega
  clear hA
  go_wp2
  go_ret
  exact⟨by rw [HV.out];rfl,HB.out⟩
 ·have HA:=Aside0.mk hA
  unfold RL.over at hA
  have h1:¬r.a0 > 5:=fun h=>hA (.inl h)
  have h2:¬(r.l2.length:Int) > 3:=fun h=>hA (.inr (.inl (by omega)))
  have h3:¬(r.l3.length:Int) > 5:=fun h=>hA (.inr (.inr (.inl (by omega))))
  have h4:¬(r.l5.length:Int) > 5:=fun h=>hA (.inr (.inr (.inr (by omega))))
  clear hA
  by_cases h0:r.a0 < 0
  ·have HV:=Aside0.mk (show er=1 by rw [HER.out];exact fault_one HA.out (.inl (.inl h0)))
   go_wp2
   go_ret
   exact⟨by rw [HV.out];rfl,HB.out⟩
  have hwl:IntKind.i64.wrap (r.a0+1)=r.a0+1:=IntWalk.i64_in _ (by omega)
  by_cases hl:(r.l1.length:Int)=r.a0+1
  ·have hlb:((r.l1.length:Int) !=r.a0+1)=false:=by rw [hl];exact bne_self_eq_false _
   have HL:=Aside0.mk hl
   clear hl
   go_wp2
   clear f0 f1 f2 f3 f5
   go_loopw [3] (fun v3 wr=>∃i:Nat,v3= .int .i64 (i:Int)∧i≤r.l1.length∧Aside0 (∀j:Nat,j < i→r.okA j)∧Aside0 (wr.heap[g1]? =some (.cells #[.int .i64 r.a0,.slice A1 r.l1.length c1,.slice A2 r.l2.length c2,.slice A3 r.l3.length c3,.slice A4 r.l4.length c4,.slice A5 r.l5.length c5] 28 (0,0)))∧Aside0 (Below w.heap.size w wr)) (fun v3 _=>(r.l1.length-intOf v3).toNat)
   case atStart=>exact⟨0,rfl,Nat.zero_le _,⟨fun j hj=>absurd hj (Nat.not_lt_zero _)⟩,BK1,HB⟩
   case round=>
    clear BK1 HB
    obtain⟨i,rfl,hi,HS,BK1,HB⟩:=hrel
    by_cases hlt:i < r.l1.length
    ·have HLT:=Aside0.mk hlt
     obtain⟨ad,e,fr0,fr1⟩:=at_T52 (RRd.below HR.out HB.out).r1 (i:Int) (by omega) (by omega)
     simp only at e
     subst e
     have fl:wr.cell? ⟨g1,1,none⟩=some (.slice (some ad) r.l1.length c1):=(blk_cell BK1.out 1).trans rfl
     have hli:(i:Int) <(r.l1.length:Int):=by omega
     have hwi:IntKind.i64.wrap ((i:Int)+1)=(i:Int)+1:=IntWalk.i64_in _ (by omega)
     have hnext:r.okA i→∀j:Nat,j < i+1→r.okA j:=fun h j hj=>by
      by_cases e:j < i
      ·exact HS.out j e
      ·obtain rfl:j=i:=by omega
       exact h
     have HNX:=Aside0.mk hnext
     clear hnext
     obtain⟨lo,hlo⟩:∃v_,v_=(rd_T52 r.l1 (i:Int)).f0:=⟨_,rfl⟩
     obtain⟨hi2,hhi2⟩:∃v_,v_=(rd_T52 r.l1 (i:Int)).f1:=⟨_,rfl⟩
     simp only [Int.toNat_natCast,←hlo,←hhi2]at fr0 fr1
     obtain⟨b,hb⟩:∃b,b=decide (0≤lo∧lo≤hi2∧hi2≤9):=⟨_,rfl⟩
     have HBB:=Aside0.mk hb
     have HOK:=Aside0.mk (show r.okA i↔(0≤lo∧lo≤hi2∧hi2≤9)by unfold RL.okA;rw [←hlo,←hhi2])
     clear hb hlo hhi2
     cases b with
     |false=>
      have HV:=Aside0.mk (show er=1 by rw [HER.out];exact fault_air HA.out HLT.out (fun h=>of_decide_eq_false HBB.out.symm (HOK.out.1 h)))
      go_wp2_with (first|(go_at_call 117;(with_reducible refine(Inside_at lo hi2 9 _).mono ?_);rw [←HBB.out];clear fr0 fr1 fl;rintro e wc ⟨rfl,hb⟩;replace BK1:=Aside0.mk (blk_below BK1.out hb);replace HB:=Aside0.mk (below_step HB.out hb);clear hb))
      go_ret
      exact⟨by rw [HV.out];rfl,HB.out⟩
     |true=>
      go_wp2_with (first|(go_at_call 117;(with_reducible refine(Inside_at lo hi2 9 _).mono ?_);rw [←HBB.out];clear fr0 fr1 fl;rintro e wc ⟨rfl,hb⟩;replace BK1:=Aside0.mk (blk_below BK1.out hb);replace HB:=Aside0.mk (below_step HB.out hb);clear hb))
      exact⟨⟨i+1,by simp,by omega,⟨HNX.out (HOK.out.2 (of_decide_eq_true HBB.out.symm))⟩,BK1,HB⟩,by simp [intOf];omega⟩
    ·have hie:i=r.l1.length:=by omega
     have HS1:=Aside0.mk (show ∀j:Nat,j < r.l1.length→r.okA j from fun j hj=>HS.out j (by omega))
     subst hie
     clear HS
     have fl:wr.cell? ⟨g1,1,none⟩=some (.slice A1 r.l1.length c1):=(blk_cell BK1.out 1).trans rfl
     have hli:(r.l1.length:Int)≤(r.l1.length:Int):=Int.le_refl _
     go_wp2
     clear fl
     go_loopw [4] (fun v4 wr=>∃i:Nat,v4= .int .i64 (i:Int)∧i≤r.l2.length∧Aside0 (∀j:Nat,j < i→r.okB j)∧Aside0 (wr.heap[g1]? =some (.cells #[.int .i64 r.a0,.slice A1 r.l1.length c1,.slice A2 r.l2.length c2,.slice A3 r.l3.length c3,.slice A4 r.l4.length c4,.slice A5 r.l5.length c5] 28 (0,0)))∧Aside0 (Below w.heap.size w wr)) (fun v4 _=>(r.l2.length-intOf v4).toNat)
     case atStart=>exact⟨0,rfl,Nat.zero_le _,⟨fun j hj=>absurd hj (Nat.not_lt_zero _)⟩,BK1,HB⟩
     case round=>
      clear BK1 HB
      obtain⟨i,rfl,hi,HS,BK1,HB⟩:=hrel
      by_cases hlt:i < r.l2.length
      ·have HLT:=Aside0.mk hlt
       obtain⟨ad,e,fr0,fr1⟩:=at_T89 (RRd.below HR.out HB.out).r2 (i:Int) (by omega) (by omega)
       simp only at e
       subst e
       have fl:wr.cell? ⟨g1,2,none⟩=some (.slice (some ad) r.l2.length c2):=(blk_cell BK1.out 2).trans rfl
       have hli:(i:Int) <(r.l2.length:Int):=by omega
       have hwi:IntKind.i64.wrap ((i:Int)+1)=(i:Int)+1:=IntWalk.i64_in _ (by omega)
       have hnext:r.okB i→∀j:Nat,j < i+1→r.okB j:=fun h j hj=>by
        by_cases e:j < i
        ·exact HS.out j e
        ·obtain rfl:j=i:=by omega
         exact h
       have HNX:=Aside0.mk hnext
       clear hnext
       obtain⟨ro,hro⟩:∃v_,v_=(rd_T89 r.l2 (i:Int)).f0:=⟨_,rfl⟩
       obtain⟨dr,hdr⟩:∃v_,v_=(rd_T89 r.l2 (i:Int)).f1:=⟨_,rfl⟩
       simp only [Int.toNat_natCast,←hro,←hdr]at fr0 fr1
       obtain⟨b1,hb1⟩:∃b,b=decide (0≤ro∧ro≤5):=⟨_,rfl⟩
       obtain⟨b2,hb2⟩:∃b,b=decide (0≤dr∧dr≤4):=⟨_,rfl⟩
       have HB1:=Aside0.mk hb1
       have HB2:=Aside0.mk hb2
       have HOK:=Aside0.mk (show r.okB i↔((0≤ro∧ro≤5)∧0≤dr∧dr≤4)by unfold RL.okB;rw [←hro,←hdr])
       clear hb1 hb2 hro hdr
       go_upto_region 14 with(fail)
       obtain⟨g5,hg_⟩:∃g_,g_=wr.heap.size:=⟨_,rfl⟩
       obtain⟨w5,hw_⟩:∃w_,w_=World.alloc wr (Obj.cells #[.int .i64 ro,.int .i64 dr] 89):=⟨_,rfl⟩
       have hb_:Below wr.heap.size wr w5:=by rw [hw_];exact below_alloc (Below.refl _ _) _
       have BK5:Aside0 (w5.heap[g5]? =some (Obj.cells #[.int .i64 ro,.int .i64 dr] 89)):=⟨by rw [hw_,hg_];exact blk_new _ _⟩
       have g5GE:Aside0 (w.heap.size≤g5):=⟨by have:=below_size HB.out;rw [hg_];exact this⟩
       replace BK1:=Aside0.mk (blk_below BK1.out hb_)
       replace HB:=Aside0.mk (below_step HB.out hb_)
       rw [←hw_,←hg_]
       clear hw_ hg_ hb_
       clear fr0 fr1 fl
       have f50:w5.cell? ⟨g5,0,none⟩=some (.int .i64 ro):=(blk_cell BK5.out 0).trans rfl
       have f51:w5.cell? ⟨g5,1,none⟩=some (.int .i64 dr):=(blk_cell BK5.out 1).trans rfl
       cases b1 with
       |false=>
        have HV:=Aside0.mk (show er=1 by rw [HER.out];exact fault_board HA.out HLT.out (fun h=>of_decide_eq_false HB1.out.symm (HOK.out.1 h).1))
        go_wp2_with (first|(go_at_call 29;(with_reducible refine(In_below ro 0 5 _).mono ?_);rw [←HB1.out];clear f50 f51;rintro e wc ⟨rfl,hb⟩;replace BK1:=Aside0.mk (blk_below BK1.out hb);replace BK5:=Aside0.mk (blk_below BK5.out hb);replace HB:=Aside0.mk (below_step HB.out hb);clear hb;have f51:wc.cell? ⟨g5,1,none⟩=some (.int .i64 dr):=(blk_cell BK5.out 1).trans rfl)|(go_at_call 29;(with_reducible refine(In_below dr 0 4 _).mono ?_);rw [←HB2.out];clear f51;rintro e wc ⟨rfl,hb⟩;replace BK1:=Aside0.mk (blk_below BK1.out hb);replace BK5:=Aside0.mk (blk_below BK5.out hb);replace HB:=Aside0.mk (below_step HB.out hb);clear hb))
        go_ret
        exact⟨by rw [HV.out];rfl,HB.out⟩
       |true=>
        cases b2 with
        |false=>
         have HV:=Aside0.mk (show er=1 by rw [HER.out];exact fault_board HA.out HLT.out (fun h=>of_decide_eq_false HB2.out.symm (HOK.out.1 h).2))
         go_wp2_with (first|(go_at_call 29;(with_reducible refine(In_below ro 0 5 _).mono ?_);rw [←HB1.out];clear f50 f51;rintro e wc ⟨rfl,hb⟩;replace BK1:=Aside0.mk (blk_below BK1.out hb);replace BK5:=Aside0.mk (blk_below BK5.out hb);replace HB:=Aside0.mk (below_step HB.out hb);clear hb;have f51:wc.cell? ⟨g5,1,none⟩=some (.int .i64 dr):=(blk_cell BK5.out 1).trans rfl)|(go_at_call 29;(with_reducible refine(In_below dr 0 4 _).mono ?_);rw [←HB2.out];clear f51;rintro e wc ⟨rfl,hb⟩;replace BK1:=Aside0.mk (blk_below BK1.out hb);replace BK5:=Aside0.mk (blk_below BK5.out hb);replace HB:=Aside0.mk (below_step HB.out hb);clear hb))
         go_ret
         exact⟨by rw [HV.out];rfl,HB.out⟩
        |true=>
         go_wp2_with (first|(go_at_call 29;(with_reducible refine(In_below ro 0 5 _).mono ?_);rw [←HB1.out];clear f50 f51;rintro e wc ⟨rfl,hb⟩;replace BK1:=Aside0.mk (blk_below BK1.out hb);replace BK5:=Aside0.mk (blk_below BK5.out hb);replace HB:=Aside0.mk (below_step HB.out hb);clear hb;have f51:wc.cell? ⟨g5,1,none⟩=some (.int .i64 dr):=(blk_cell BK5.out 1).trans rfl)|(go_at_call 29;(with_reducible refine(In_below dr 0 4 _).mono ?_);rw [←HB2.out];clear f51;rintro e wc ⟨rfl,hb⟩;replace BK1:=Aside0.mk (blk_below BK1.out hb);replace BK5:=Aside0.mk (blk_below BK5.out hb);replace HB:=Aside0.mk (below_step HB.out hb);clear hb))
         exact⟨⟨i+1,by simp,by omega,⟨HNX.out (HOK.out.2 ⟨of_decide_eq_true HB1.out.symm,of_decide_eq_true HB2.out.symm⟩)⟩,BK1,HB⟩,by simp [intOf];omega⟩
      ·have hie:i=r.l2.length:=by omega
       have HS2:=Aside0.mk (show ∀j:Nat,j < r.l2.length→r.okB j from fun j hj=>HS.out j (by omega))
       subst hie
       clear HS
       have fl:wr.cell? ⟨g1,2,none⟩=some (.slice A2 r.l2.length c2):=(blk_cell BK1.out 2).trans rfl
       have hli:(r.l2.length:Int)≤(r.l2.length:Int):=Int.le_refl _
       go_wp2
       clear fl
       go_loopw [6] (fun v6 wr=>∃i:Nat,v6= .int .i64 (i:Int)∧i≤r.l3.length∧Aside0 (∀j:Nat,j < i→r.okC j)∧Aside0 (wr.heap[g1]? =some (.cells #[.int .i64 r.a0,.slice A1 r.l1.length c1,.slice A2 r.l2.length c2,.slice A3 r.l3.length c3,.slice A4 r.l4.length c4,.slice A5 r.l5.length c5] 28 (0,0)))∧Aside0 (Below w.heap.size w wr)) (fun v6 _=>(r.l3.length-intOf v6).toNat)
       case atStart=>exact⟨0,rfl,Nat.zero_le _,⟨fun j hj=>absurd hj (Nat.not_lt_zero _)⟩,BK1,HB⟩
       case round=>
        clear BK1 HB
        obtain⟨i,rfl,hi,HS,BK1,HB⟩:=hrel
        by_cases hlt:i < r.l3.length
        ·have HLT:=Aside0.mk hlt
         obtain⟨ad,e,fr0,fr1,fr2,fr3⟩:=at_T54 (RRd.below HR.out HB.out).r3 (i:Int) (by omega) (by omega)
         simp only at e
         subst e
         have fl:wr.cell? ⟨g1,3,none⟩=some (.slice (some ad) r.l3.length c3):=(blk_cell BK1.out 3).trans rfl
         have hli:(i:Int) <(r.l3.length:Int):=by omega
         have hwi:IntKind.i64.wrap ((i:Int)+1)=(i:Int)+1:=IntWalk.i64_in _ (by omega)
         have hnext:r.okC i→∀j:Nat,j < i+1→r.okC j:=fun h j hj=>by
          by_cases e:j < i
          ·exact HS.out j e
          ·obtain rfl:j=i:=by omega
           exact h
         have HNX:=Aside0.mk hnext
         clear hnext
         obtain⟨co,hco⟩:∃v_,v_=(rd_T54 r.l3 (i:Int)).f0:=⟨_,rfl⟩
         obtain⟨lo,hlo⟩:∃v_,v_=(rd_T54 r.l3 (i:Int)).f1.f0:=⟨_,rfl⟩
         obtain⟨hi2,hhi2⟩:∃v_,v_=(rd_T54 r.l3 (i:Int)).f1.f1:=⟨_,rfl⟩
         obtain⟨ke,hke⟩:∃v_,v_=(rd_T54 r.l3 (i:Int)).f2:=⟨_,rfl⟩
         simp only [Int.toNat_natCast,←hco,←hlo,←hhi2,←hke]at fr0 fr1 fr2 fr3
         obtain⟨b1,hb1⟩:∃b,b=decide (0≤co∧co≤r.a0):=⟨_,rfl⟩
         obtain⟨b2,hb2⟩:∃b,b=decide (0≤lo∧lo≤hi2∧hi2≤40):=⟨_,rfl⟩
         obtain⟨b3,hb3⟩:∃b,b=decide (1≤ke∧ke≤6):=⟨_,rfl⟩
         have HB1:=Aside0.mk hb1
         have HB2:=Aside0.mk hb2
         have HB3:=Aside0.mk hb3
         have HOK:=Aside0.mk (show r.okC i↔((0≤co∧co≤r.a0)∧(0≤lo∧lo≤hi2∧hi2≤40)∧1≤ke∧ke≤6)by unfold RL.okC;rw [←hco,←hlo,←hhi2,←hke])
         clear hb1 hb2 hb3 hco hlo hhi2 hke
         go_upto_region 20 with(fail)
         obtain⟨g7,hg_⟩:∃g_,g_=wr.heap.size:=⟨_,rfl⟩
         obtain⟨w7,hw_⟩:∃w_,w_=World.alloc wr (Obj.cells #[.int .i64 co,.int .i64 lo,.int .i64 hi2,.int .i64 ke] 54):=⟨_,rfl⟩
         have hb_:Below wr.heap.size wr w7:=by rw [hw_];exact below_alloc (Below.refl _ _) _
         have BK7:Aside0 (w7.heap[g7]? =some (Obj.cells #[.int .i64 co,.int .i64 lo,.int .i64 hi2,.int .i64 ke] 54)):=⟨by rw [hw_,hg_];exact blk_new _ _⟩
         have g7GE:Aside0 (w.heap.size≤g7):=⟨by have:=below_size HB.out;rw [hg_];exact this⟩
         replace BK1:=Aside0.mk (blk_below BK1.out hb_)
         replace HB:=Aside0.mk (below_step HB.out hb_)
         rw [←hw_,←hg_]
         clear hw_ hg_ hb_
         clear fr0 fr1 fr2 fr3 fl
         have f0:w7.cell? ⟨g1,0,none⟩=some (.int .i64 r.a0):=(blk_cell BK1.out 0).trans rfl
         have f70:w7.cell? ⟨g7,0,none⟩=some (.int .i64 co):=(blk_cell BK7.out 0).trans rfl
         have f71:w7.cell? ⟨g7,1,none⟩=some (.int .i64 lo):=(blk_cell BK7.out 1).trans rfl
         have f72:w7.cell? ⟨g7,2,none⟩=some (.int .i64 hi2):=(blk_cell BK7.out 2).trans rfl
         have f73:w7.cell? ⟨g7,3,none⟩=some (.int .i64 ke):=(blk_cell BK7.out 3).trans rfl
         cases b1 with
         |false=>
          have HV:=Aside0.mk (show er=1 by rw [HER.out];exact fault_cake HA.out HLT.out (fun h=>of_decide_eq_false HB1.out.symm (HOK.out.1 h).1))
          go_wp2_with (first|(go_at_call 29;(with_reducible refine(In_below co 0 r.a0 _).mono ?_);rw [←HB1.out];clear f0 f70 f71 f72 f73;rintro e wc ⟨rfl,hb⟩;replace BK1:=Aside0.mk (blk_below BK1.out hb);replace BK7:=Aside0.mk (blk_below BK7.out hb);replace HB:=Aside0.mk (below_step HB.out hb);clear hb;have f71:wc.cell? ⟨g7,1,none⟩=some (.int .i64 lo):=(blk_cell BK7.out 1).trans rfl;have f72:wc.cell? ⟨g7,2,none⟩=some (.int .i64 hi2):=(blk_cell BK7.out 2).trans rfl;have f73:wc.cell? ⟨g7,3,none⟩=some (.int .i64 ke):=(blk_cell BK7.out 3).trans rfl)|(go_at_call 117;(with_reducible refine(Inside_at lo hi2 40 _).mono ?_);rw [←HB2.out];clear f71 f72 f73;rintro e wc ⟨rfl,hb⟩;replace BK1:=Aside0.mk (blk_below BK1.out hb);replace BK7:=Aside0.mk (blk_below BK7.out hb);replace HB:=Aside0.mk (below_step HB.out hb);clear hb;have f73:wc.cell? ⟨g7,3,none⟩=some (.int .i64 ke):=(blk_cell BK7.out 3).trans rfl)|(go_at_call 29;(with_reducible refine(In_below ke 1 6 _).mono ?_);rw [←HB3.out];clear f73;rintro e wc ⟨rfl,hb⟩;replace BK1:=Aside0.mk (blk_below BK1.out hb);replace BK7:=Aside0.mk (blk_below BK7.out hb);replace HB:=Aside0.mk (below_step HB.out hb);clear hb))
          go_ret
          exact⟨by rw [HV.out];rfl,HB.out⟩
         |true=>
          cases b2 with
          |false=>
           have HV:=Aside0.mk (show er=1 by rw [HER.out];exact fault_cake HA.out HLT.out (fun h=>of_decide_eq_false HB2.out.symm (HOK.out.1 h).2.1))
           go_wp2_with (first|(go_at_call 29;(with_reducible refine(In_below co 0 r.a0 _).mono ?_);rw [←HB1.out];clear f0 f70 f71 f72 f73;rintro e wc ⟨rfl,hb⟩;replace BK1:=Aside0.mk (blk_below BK1.out hb);replace BK7:=Aside0.mk (blk_below BK7.out hb);replace HB:=Aside0.mk (below_step HB.out hb);clear hb;have f71:wc.cell? ⟨g7,1,none⟩=some (.int .i64 lo):=(blk_cell BK7.out 1).trans rfl;have f72:wc.cell? ⟨g7,2,none⟩=some (.int .i64 hi2):=(blk_cell BK7.out 2).trans rfl;have f73:wc.cell? ⟨g7,3,none⟩=some (.int .i64 ke):=(blk_cell BK7.out 3).trans rfl)|(go_at_call 117;(with_reducible refine(Inside_at lo hi2 40 _).mono ?_);rw [←HB2.out];clear f71 f72 f73;rintro e wc ⟨rfl,hb⟩;replace BK1:=Aside0.mk (blk_below BK1.out hb);replace BK7:=Aside0.mk (blk_below BK7.out hb);replace HB:=Aside0.mk (below_step HB.out hb);clear hb;have f73:wc.cell? ⟨g7,3,none⟩=some (.int .i64 ke):=(blk_cell BK7.out 3).trans rfl)|(go_at_call 29;(with_reducible refine(In_below ke 1 6 _).mono ?_);rw [←HB3.out];clear f73;rintro e wc ⟨rfl,hb⟩;replace BK1:=Aside0.mk (blk_below BK1.out hb);replace BK7:=Aside0.mk (blk_below BK7.out hb);replace HB:=Aside0.mk (below_step HB.out hb);clear hb))
           go_ret
           exact⟨by rw [HV.out];rfl,HB.out⟩
          |true=>
           cases b3 with
           |false=>
            have HV:=Aside0.mk (show er=1 by rw [HER.out];exact fault_cake HA.out HLT.out (fun h=>of_decide_eq_false HB3.out.symm (HOK.out.1 h).2.2))
            go_wp2_with (first|(go_at_call 29;(with_reducible refine(In_below co 0 r.a0 _).mono ?_);rw [←HB1.out];clear f0 f70 f71 f72 f73;rintro e wc ⟨rfl,hb⟩;replace BK1:=Aside0.mk (blk_below BK1.out hb);replace BK7:=Aside0.mk (blk_below BK7.out hb);replace HB:=Aside0.mk (below_step HB.out hb);clear hb;have f71:wc.cell? ⟨g7,1,none⟩=some (.int .i64 lo):=(blk_cell BK7.out 1).trans rfl;have f72:wc.cell? ⟨g7,2,none⟩=some (.int .i64 hi2):=(blk_cell BK7.out 2).trans rfl;have f73:wc.cell? ⟨g7,3,none⟩=some (.int .i64 ke):=(blk_cell BK7.out 3).trans rfl)|(go_at_call 117;(with_reducible refine(Inside_at lo hi2 40 _).mono ?_);rw [←HB2.out];clear f71 f72 f73;rintro e wc ⟨rfl,hb⟩;replace BK1:=Aside0.mk (blk_below BK1.out hb);replace BK7:=Aside0.mk (blk_below BK7.out hb);replace HB:=Aside0.mk (below_step HB.out hb);clear hb;have f73:wc.cell? ⟨g7,3,none⟩=some (.int .i64 ke):=(blk_cell BK7.out 3).trans rfl)|(go_at_call 29;(with_reducible refine(In_below ke 1 6 _).mono ?_);rw [←HB3.out];clear f73;rintro e wc ⟨rfl,hb⟩;replace BK1:=Aside0.mk (blk_below BK1.out hb);replace BK7:=Aside0.mk (blk_below BK7.out hb);replace HB:=Aside0.mk (below_step HB.out hb);clear hb))
            go_ret
            exact⟨by rw [HV.out];rfl,HB.out⟩
           |true=>
            go_wp2_with (first|(go_at_call 29;(with_reducible refine(In_below co 0 r.a0 _).mono ?_);rw [←HB1.out];clear f0 f70 f71 f72 f73;rintro e wc ⟨rfl,hb⟩;replace BK1:=Aside0.mk (blk_below BK1.out hb);replace BK7:=Aside0.mk (blk_below BK7.out hb);replace HB:=Aside0.mk (below_step HB.out hb);clear hb;have f71:wc.cell? ⟨g7,1,none⟩=some (.int .i64 lo):=(blk_cell BK7.out 1).trans rfl;have f72:wc.cell? ⟨g7,2,none⟩=some (.int .i64 hi2):=(blk_cell BK7.out 2).trans rfl;have f73:wc.cell? ⟨g7,3,none⟩=some (.int .i64 ke):=(blk_cell BK7.out 3).trans rfl)|(go_at_call 117;(with_reducible refine(Inside_at lo hi2 40 _).mono ?_);rw [←HB2.out];clear f71 f72 f73;rintro e wc ⟨rfl,hb⟩;replace BK1:=Aside0.mk (blk_below BK1.out hb);replace BK7:=Aside0.mk (blk_below BK7.out hb);replace HB:=Aside0.mk (below_step HB.out hb);clear hb;have f73:wc.cell? ⟨g7,3,none⟩=some (.int .i64 ke):=(blk_cell BK7.out 3).trans rfl)|(go_at_call 29;(with_reducible refine(In_below ke 1 6 _).mono ?_);rw [←HB3.out];clear f73;rintro e wc ⟨rfl,hb⟩;replace BK1:=Aside0.mk (blk_below BK1.out hb);replace BK7:=Aside0.mk (blk_below BK7.out hb);replace HB:=Aside0.mk (below_step HB.out hb);clear hb))
            exact⟨⟨i+1,by simp,by omega,⟨HNX.out (HOK.out.2 ⟨of_decide_eq_true HB1.out.symm,of_decide_eq_true HB2.out.symm,of_decide_eq_true HB3.out.symm⟩)⟩,BK1,HB⟩,by simp [intOf];omega⟩
        ·have hie:i=r.l3.length:=by omega
         have HS3:=Aside0.mk (show ∀j:Nat,j < r.l3.length→r.okC j from fun j hj=>HS.out j (by omega))
         subst hie
         clear HS
         have fl:wr.cell? ⟨g1,3,none⟩=some (.slice A3 r.l3.length c3):=(blk_cell BK1.out 3).trans rfl
         have hli:(r.l3.length:Int)≤(r.l3.length:Int):=Int.le_refl _
         clear fl
         have f0:wr.cell? ⟨g1,0,none⟩=some (.int .i64 r.a0):=(blk_cell BK1.out 0).trans rfl
         have f1:wr.cell? ⟨g1,1,none⟩=some (.slice A1 r.l1.length c1):=(blk_cell BK1.out 1).trans rfl
         have f2:wr.cell? ⟨g1,2,none⟩=some (.slice A2 r.l2.length c2):=(blk_cell BK1.out 2).trans rfl
         have f3:wr.cell? ⟨g1,3,none⟩=some (.slice A3 r.l3.length c3):=(blk_cell BK1.out 3).trans rfl
         have f4:wr.cell? ⟨g1,4,none⟩=some (.slice A4 r.l4.length c4):=(blk_cell BK1.out 4).trans rfl
         have f5:wr.cell? ⟨g1,5,none⟩=some (.slice A5 r.l5.length c5):=(blk_cell BK1.out 5).trans rfl
         obtain⟨bp,hbp⟩:∃bp,bp=decide (r.okPlace r.l4):=⟨_,rfl⟩
         have HBP:=Aside0.mk hbp
         clear hbp
         cases bp with
         |false=>
          have HV:=Aside0.mk (show er=1 by rw [HER.out];exact fault_one HA.out (.inr (.inr (.inl (fun h=>of_decide_eq_false HBP.out.symm ((okPlace_iff (fun s hs=>(HS2.out s hs).1.1)).2 h))))))
          go_wp2_with (first|(go_at_call 26;(with_reducible refine(rIsPlace ⟨A1,c1,A2,c2,A3,c3,A4,c4,A5,c5⟩ r A4 c4 r.l4 _ (RRd.below HR.out HB.out) t2 t3 (RRd.below HR.out HB.out).r4).mono ?_);rw [←HBP.out];clear f0 f1 f2 f3 f4 f5;rintro e wp ⟨rfl,hb⟩;replace BK1:=Aside0.mk (blk_below BK1.out hb);replace HB:=Aside0.mk (below_step HB.out hb);clear hb))
          go_ret
          exact⟨by rw [HV.out];rfl,HB.out⟩
         |true=>
          have HOKP:=Aside0.mk (of_decide_eq_true HBP.out.symm:r.okPlace r.l4)
          go_wp2_with (first|(go_at_call 26;(with_reducible refine(rIsPlace ⟨A1,c1,A2,c2,A3,c3,A4,c4,A5,c5⟩ r A4 c4 r.l4 _ (RRd.below HR.out HB.out) t2 t3 (RRd.below HR.out HB.out).r4).mono ?_);rw [←HBP.out];clear f0 f1 f2 f3 f4 f5;rintro e wp ⟨rfl,hb⟩;replace BK1:=Aside0.mk (blk_below BK1.out hb);replace HB:=Aside0.mk (below_step HB.out hb);clear hb))
          go_loopw [8] (fun v8 wr=>∃i:Nat,v8= .int .i64 (i:Int)∧i≤r.l5.length∧Aside0 (∀j:Nat,j < i→r.okW j)∧Aside0 (wr.heap[g1]? =some (.cells #[.int .i64 r.a0,.slice A1 r.l1.length c1,.slice A2 r.l2.length c2,.slice A3 r.l3.length c3,.slice A4 r.l4.length c4,.slice A5 r.l5.length c5] 28 (0,0)))∧Aside0 (Below w.heap.size w wr)) (fun v8 _=>(r.l5.length-intOf v8).toNat)
          case atStart=>exact⟨0,rfl,Nat.zero_le _,⟨fun j hj=>absurd hj (Nat.not_lt_zero _)⟩,BK1,HB⟩
          case round=>
           clear BK1 HB
           obtain⟨i,rfl,hi,HS,BK1,HB⟩:=hrel
           by_cases hlt:i < r.l5.length
           ·have HLT:=Aside0.mk hlt
            obtain⟨ad,e,fr0,fr1,fr2,fr3⟩:=at_T108 (RRd.below HR.out HB.out).r5 (i:Int) (by omega) (by omega)
            simp only at e
            subst e
            have fl:wr.cell? ⟨g1,5,none⟩=some (.slice (some ad) r.l5.length c5):=(blk_cell BK1.out 5).trans rfl
            have hli:(i:Int) <(r.l5.length:Int):=by omega
            have hwi:IntKind.i64.wrap ((i:Int)+1)=(i:Int)+1:=IntWalk.i64_in _ (by omega)
            have hnext:r.okW i→∀j:Nat,j < i+1→r.okW j:=fun h j hj=>by
             by_cases e:j < i
             ·exact HS.out j e
             ·obtain rfl:j=i:=by omega
              exact h
            have HNX:=Aside0.mk hnext
            clear hnext
            obtain⟨ck,hck⟩:∃v_,v_=(rd_T108 r.l5 (i:Int)).f0:=⟨_,rfl⟩
            obtain⟨dy,hdy⟩:∃v_,v_=(rd_T108 r.l5 (i:Int)).f1:=⟨_,rfl⟩
            obtain⟨lo,hlo⟩:∃v_,v_=(rd_T108 r.l5 (i:Int)).f2.f0:=⟨_,rfl⟩
            obtain⟨hi2,hhi2⟩:∃v_,v_=(rd_T108 r.l5 (i:Int)).f2.f1:=⟨_,rfl⟩
            simp only [Int.toNat_natCast,←hck,←hdy,←hlo,←hhi2]at fr0 fr1 fr2 fr3
            obtain⟨co,hco⟩:∃co,co=(rd_T54 r.l3 ck).f0:=⟨_,rfl⟩
            obtain⟨b1,hb1⟩:∃b,b=decide (0≤ck∧ck≤(r.l3.length:Int)-1):=⟨_,rfl⟩
            obtain⟨b2,hb2⟩:∃b,b=decide (co≤dy∧dy≤r.a0):=⟨_,rfl⟩
            obtain⟨b3,hb3⟩:∃b,b=decide (0≤lo∧lo≤hi2∧hi2≤40):=⟨_,rfl⟩
            have HB1:=Aside0.mk hb1
            have HB2:=Aside0.mk hb2
            have HB3:=Aside0.mk hb3
            have HOK:=Aside0.mk (show r.okW i↔((0≤ck∧ck≤(r.l3.length:Int)-1)∧(co≤dy∧dy≤r.a0)∧0≤lo∧lo≤hi2∧hi2≤40)by unfold RL.okW;rw [hco,←hck,←hdy,←hlo,←hhi2])
            clear hb1 hb2 hb3 hdy hlo hhi2 hck
            have hw3:IntKind.i64.wrap ((r.l3.length:Int)-1)=(r.l3.length:Int)-1:=IntWalk.i64_in _ (by omega)
            go_upto_region 28 with(fail)
            obtain⟨g9,hg_⟩:∃g_,g_=wr.heap.size:=⟨_,rfl⟩
            obtain⟨w9,hw_⟩:∃w_,w_=World.alloc wr (Obj.cells #[.int .i64 ck,.int .i64 dy,.int .i64 lo,.int .i64 hi2] 108):=⟨_,rfl⟩
            have hb_:Below wr.heap.size wr w9:=by rw [hw_];exact below_alloc (Below.refl _ _) _
            have BK9:Aside0 (w9.heap[g9]? =some (Obj.cells #[.int .i64 ck,.int .i64 dy,.int .i64 lo,.int .i64 hi2] 108)):=⟨by rw [hw_,hg_];exact blk_new _ _⟩
            have g9GE:Aside0 (w.heap.size≤g9):=⟨by have:=below_size HB.out;rw [hg_];exact this⟩
            replace BK1:=Aside0.mk (blk_below BK1.out hb_)
            replace HB:=Aside0.mk (below_step HB.out hb_)
            rw [←hw_,←hg_]
            clear hw_ hg_ hb_
            clear fr0 fr1 fr2 fr3 fl
            have f0:w9.cell? ⟨g1,0,none⟩=some (.int .i64 r.a0):=(blk_cell BK1.out 0).trans rfl
            have f3:w9.cell? ⟨g1,3,none⟩=some (.slice A3 r.l3.length c3):=(blk_cell BK1.out 3).trans rfl
            have f90:w9.cell? ⟨g9,0,none⟩=some (.int .i64 ck):=(blk_cell BK9.out 0).trans rfl
            have f91:w9.cell? ⟨g9,1,none⟩=some (.int .i64 dy):=(blk_cell BK9.out 1).trans rfl
            have f92:w9.cell? ⟨g9,2,none⟩=some (.int .i64 lo):=(blk_cell BK9.out 2).trans rfl
            have f93:w9.cell? ⟨g9,3,none⟩=some (.int .i64 hi2):=(blk_cell BK9.out 3).trans rfl
            replace f0:=gb_cell f0
            replace f3:=gb_cell f3
            replace f90:=gb_cell f90
            replace f91:=gb_cell f91
            replace f92:=gb_cell f92
            replace f93:=gb_cell f93
            have HC1:=Aside0.mk (show ∀p:GB w9,Calls Try.prog 29 #[.int .i64 ck,.int .i64 0,.int .i64 ((r.l3.length:Int)-1)] p.W fun e w'=>e= .returned (.bool b1)∧∃q:GB w9,w'=q.W from fun p=>by
             refine(In_below ck 0 ((r.l3.length:Int)-1) p.W).mono ?_
             rw [←HB1.out]
             rintro e w' ⟨rfl,hb⟩
             exact⟨rfl,⟨⟨w',below_step p.bel hb⟩,rfl⟩⟩)
            have HC2:=Aside0.mk (show ∀p:GB w9,Calls Try.prog 29 #[.int .i64 dy,.int .i64 co,.int .i64 r.a0] p.W fun e w'=>e= .returned (.bool b2)∧∃q:GB w9,w'=q.W from fun p=>by
             refine(In_below dy co r.a0 p.W).mono ?_
             rw [←HB2.out]
             rintro e w' ⟨rfl,hb⟩
             exact⟨rfl,⟨⟨w',below_step p.bel hb⟩,rfl⟩⟩)
            have HC3:=Aside0.mk (show ∀p:GB w9,Calls Try.prog 117 #[.agg #[.int .i64 lo,.int .i64 hi2],.int .i64 40] p.W fun e w'=>e= .returned (.bool b3)∧∃q:GB w9,w'=q.W from fun p=>by
             refine(Inside_at lo hi2 40 p.W).mono ?_
             rw [←HB3.out]
             rintro e w' ⟨rfl,hb⟩
             exact⟨rfl,⟨⟨w',below_step p.bel hb⟩,rfl⟩⟩)
            cases b1 with
            |false=>
             have HV:=Aside0.mk (show er=1 by rw [HER.out];exact fault_weight HA.out HLT.out (fun h=>of_decide_eq_false HB1.out.symm (HOK.out.1 h).1))
             have fC:True:=trivial
             refine quiet_gb (by kernel_rfl) (by kernel_rfl) ?_
             repeat(go_big_quiet_step (first|with_reducible exact HC1.out _|with_reducible exact HC2.out _|with_reducible exact HC3.out _))
             refine wpQuiet_nil ?_
             rintro _ ⟨q,rfl⟩
             replace BK1:=Aside0.mk (blk_below BK1.out q.bel)
             replace HB:=Aside0.mk (below_step HB.out q.bel)
             clear HC1 HC2 HC3 f0 f3 f90 f91 f92 f93 fC
             go_wp2
             go_ret
             exact⟨by rw [HV.out];rfl,HB.out⟩
            |true=>
             obtain⟨ad3,e3,fC,_,_,_⟩:=at_T54 (RRd.below HR.out HB.out).r3 ck (of_decide_eq_true HB1.out.symm).1 (by have:=(of_decide_eq_true HB1.out.symm).2;omega)
             simp only at e3
             subst e3
             rw [←hco]at fC
             have ck0:=(of_decide_eq_true HB1.out.symm).1
             have ck1:ck <(r.l3.length:Int):=by have:=(of_decide_eq_true HB1.out.symm).2;omega
             replace fC:=gb_cell fC
             clear hco
             cases b2 with
             |false=>
              have HV:=Aside0.mk (show er=1 by rw [HER.out];exact fault_weight HA.out HLT.out (fun h=>of_decide_eq_false HB2.out.symm (HOK.out.1 h).2.1))
              refine quiet_gb (by kernel_rfl) (by kernel_rfl) ?_
              repeat(go_big_quiet_step (first|with_reducible exact HC1.out _|with_reducible exact HC2.out _|with_reducible exact HC3.out _))
              refine wpQuiet_nil ?_
              rintro _ ⟨q,rfl⟩
              replace BK1:=Aside0.mk (blk_below BK1.out q.bel)
              replace HB:=Aside0.mk (below_step HB.out q.bel)
              clear HC1 HC2 HC3 f0 f3 f90 f91 f92 f93 fC
              go_wp2
              go_ret
              exact⟨by rw [HV.out];rfl,HB.out⟩
             |true=>
              cases b3 with
              |false=>
               have HV:=Aside0.mk (show er=1 by rw [HER.out];exact fault_weight HA.out HLT.out (fun h=>of_decide_eq_false HB3.out.symm (HOK.out.1 h).2.2))
               refine quiet_gb (by kernel_rfl) (by kernel_rfl) ?_
               repeat(go_big_quiet_step (first|with_reducible exact HC1.out _|with_reducible exact HC2.out _|with_reducible exact HC3.out _))
               refine wpQuiet_nil ?_
               rintro _ ⟨q,rfl⟩
               replace BK1:=Aside0.mk (blk_below BK1.out q.bel)
               replace HB:=Aside0.mk (below_step HB.out q.bel)
               clear HC1 HC2 HC3 f0 f3 f90 f91 f92 f93 fC
               go_wp2
               go_ret
               exact⟨by rw [HV.out];rfl,HB.out⟩
              |true=>
               refine quiet_gb (by kernel_rfl) (by kernel_rfl) ?_
               repeat(go_big_quiet_step (first|with_reducible exact HC1.out _|with_reducible exact HC2.out _|with_reducible exact HC3.out _))
               refine wpQuiet_nil ?_
               rintro _ ⟨q,rfl⟩
               replace BK1:=Aside0.mk (blk_below BK1.out q.bel)
               replace HB:=Aside0.mk (below_step HB.out q.bel)
               clear HC1 HC2 HC3 f0 f3 f90 f91 f92 f93 fC
               go_wp2
               exact⟨⟨i+1,by simp,by omega,⟨HNX.out (HOK.out.2 ⟨of_decide_eq_true HB1.out.symm,of_decide_eq_true HB2.out.symm,of_decide_eq_true HB3.out.symm⟩)⟩,BK1,HB⟩,by simp [intOf];omega⟩
           ·have hie:i=r.l5.length:=by omega
            have HS4:=Aside0.mk (show ∀j:Nat,j < r.l5.length→r.okW j from fun j hj=>HS.out j (by omega))
            subst hie
            clear HS
            have fl:wr.cell? ⟨g1,5,none⟩=some (.slice A5 r.l5.length c5):=(blk_cell BK1.out 5).trans rfl
            have hli:(r.l5.length:Int)≤(r.l5.length:Int):=Int.le_refl _
            clear fl
            have f0:wr.cell? ⟨g1,0,none⟩=some (.int .i64 r.a0):=(blk_cell BK1.out 0).trans rfl
            have f1:wr.cell? ⟨g1,1,none⟩=some (.slice A1 r.l1.length c1):=(blk_cell BK1.out 1).trans rfl
            have f2:wr.cell? ⟨g1,2,none⟩=some (.slice A2 r.l2.length c2):=(blk_cell BK1.out 2).trans rfl
            have f3:wr.cell? ⟨g1,3,none⟩=some (.slice A3 r.l3.length c3):=(blk_cell BK1.out 3).trans rfl
            have f4:wr.cell? ⟨g1,4,none⟩=some (.slice A4 r.l4.length c4):=(blk_cell BK1.out 4).trans rfl
            have f5:wr.cell? ⟨g1,5,none⟩=some (.slice A5 r.l5.length c5):=(blk_cell BK1.out 5).trans rfl
            have HSZ:=HA.out
            have SZD:=Aside0.mk (show Sized r from⟨t1,t3,fun j hj=>⟨(HS1.out j hj).1,(HS1.out j hj).2.1,by have:=(HS1.out j hj).2.2;omega⟩,fun j hj=>(HS3.out j hj).2.1⟩)
            obtain⟨mn_,hmn⟩:∃m,m=r.many:=⟨_,rfl⟩
            have HMN:=Aside0.mk hmn
            have HFE:=Aside0.mk (show er=if 2000 < mn_ then 3 else 0 by rw [HER.out,hmn];exact fault_end HA.out (Int.not_lt.2 h0) HL.out HS1.out HS2.out HS3.out HOKP.out HS4.out)
            clear hmn HSZ
            by_cases hm:mn_ > 2000
            ·have HV:=Aside0.mk (show er=3 by rw [HFE.out,if_pos hm])
             go_wp2_with (first|(go_at_call 49;(with_reducible refine(rMany ⟨A1,c1,A2,c2,A3,c3,A4,c4,A5,c5⟩ r _ (RRd.below HR.out HB.out) SZD.out).mono ?_);rw [←HMN.out];clear f0 f1 f2 f3 f4 f5;rintro e wm ⟨rfl,hb⟩;replace BK1:=Aside0.mk (blk_below BK1.out hb);replace HB:=Aside0.mk (below_step HB.out hb);clear hb))
             go_ret
             exact⟨by rw [HV.out];rfl,HB.out⟩
            ·have HV:=Aside0.mk (show er=0 by rw [HFE.out,if_neg hm])
             go_wp2_with (first|(go_at_call 49;(with_reducible refine(rMany ⟨A1,c1,A2,c2,A3,c3,A4,c4,A5,c5⟩ r _ (RRd.below HR.out HB.out) SZD.out).mono ?_);rw [←HMN.out];clear f0 f1 f2 f3 f4 f5;rintro e wm ⟨rfl,hb⟩;replace BK1:=Aside0.mk (blk_below BK1.out hb);replace HB:=Aside0.mk (below_step HB.out hb);clear hb))
             go_ret
             exact⟨by rw [HV.out];rfl,HB.out⟩
  ·have hlb:((r.l1.length:Int) !=r.a0+1)=true:=by rw [bne_iff_ne];exact hl
   have HV:=Aside0.mk (show er=1 by rw [HER.out];exact fault_one HA.out (.inl (.inr (.inl hl))))
   clear hl
   go_wp2
   go_ret
   exact⟨by rw [HV.out];rfl,HB.out⟩
end Go.Proofs.Ytjifalohjlihaaa.Q
end
section
namespace Go.Proofs.Ytjifalohjlihaaa.Q
set_option linter.unusedVariables false
open Go.RowKit Go.Proofs.YtjifalohjlihaaaW.PrintWords Go.Proofs.YtjifalohjlihaaaW.PrintLast Go.Proofs.YtjifalohjlihaaaW.PrintMore
def anillaw06_list.f (l0:List Int):Option (List Int):=if l0.length < 17592186044416 then some l0 else none
set_option maxRecDepth 100000 in
set_option maxHeartbeats 800000 in
theorem anillaw06_list.calls (A0:Option Addr) (c0:Nat) (l0:List Int) (r:List Int) (w:World) (hr0:Kd.C (Kd.int .i64) w A0 l0.length l0) (hc0:l0.length≤c0) (h:anillaw06_list.f l0=some r):
  Calls Try.prog 23 #[.slice A0 l0.length c0] w fun e w'=>∃v0_:Value,e= .returned v0_∧Kd.R (Kd.int .i64) 3 w' w.heap.size (fun _=>True) v0_ r∧Below w.heap.size w w':=by
 unfold anillaw06_list.f at h
 split at h
 case isFalse=>cases h
 case isTrue hlim0=>
 have hlim:=Aside0.mk hlim0
 clear hlim0
 obtain rfl:=Option.some.inj h
 have HR0:=Aside0.mk hr0
 have HB:=Aside0.mk (Below.refl w.heap.size w)
 clear hr0 hc0 h
 go_enter Try.func23,Try.ntmps23
 go_wp2_with (first|((with_reducible refine gate_builtin (b:= .append) (xs:=#[.const (.slice none 0 0),.tmp 3]) rfl ?_);at_builtin;refine Kd.R_append_rows (Kd.int .i64) (w0:=w) w.heap.size rfl (.const (.slice none 0 0)) (.tmp 3) 25 3 (.int .i64 0) 8 rfl Try.underlying25 info3 rfl (by decide) (by omega) (.slice none 0 0) [] l0 A0 l0.length c0 (fun _=>True) (fun _=>False) rfl rfl (Kd.R_nil _ _ _ _ _) HR0.out (fun _ _ h=>h) (fun _ h=>h.elim) (fun _ _=>trivial) HB.out (Nat.le_refl _) (lim_int hlim.out) ?_;intro v17 w12 ho hb hg hat;have HO2:=Aside0.mk ho;have HB2:=Aside0.mk hb;clear ho hb hg hat))
 go_ret
 exact⟨_,rfl,HO2.out,HB2.out⟩
end Go.Proofs.Ytjifalohjlihaaa.Q
end
section
namespace Go.Proofs.Ytjifalohjlihaaa.Q
set_option linter.unusedVariables false
open Go.BigFrame Go.RowKit Go.Shelf Go.Proofs.YtjifalohjlihaaaW.PrintWords Go.Proofs.YtjifalohjlihaaaW.PrintLast Go.Proofs.YtjifalohjlihaaaW.PrintMore
theorem to_at (lo hi:Int) (w:World):Calls Try.prog 31 #[.agg #[.int .i64 lo,.int .i64 hi]] w fun e w'=>e= .returned (.agg #[.int .i64 lo,.int .i64 hi])∧Below w.heap.size w w':=anillaw06_to.calls lo hi lo hi w rfl
structure LfS (w X:World) (x:SA) (r:RL) (g1 g2 g3:Nat) (V1 V2 V3 V4 V5:Value) (n1 n2 n3 n5:Nat):Prop where
 bel:Below w.heap.size w X
 b1:X.heap[g1]? =some (.cells (r.cells x) 28 (0,0))
 b2:X.heap[g2]? =some (.cells #[.int .i64 0,.slice none 0 0,.slice none 0 0,.slice none 0 0,.slice none 0 0,.slice none 0 0] 39 (0,0))
 b3:X.heap[g3]? =some (.cells #[.int .i64 r.a0,V1,V2,V3,V4,V5] 39 (0,0))
 o1:Kd.R k56 56 X w.heap.size (fun k=>k≠g3) V1 ((r.l1.take n1).map cR)
 o2:Kd.R k135 135 X w.heap.size (fun k=>k≠g3) V2 ((r.l2.take n2).map cB)
 o3:Kd.R k126 126 X w.heap.size (fun k=>k≠g3) V3 ((r.l3.take n3).map cC)
 o4:Kd.R (Kd.int .i64) 3 X w.heap.size (fun k=>k≠g3) V4 r.l4
 o5:Kd.R k137 137 X w.heap.size (fun k=>k≠g3) V5 ((r.l5.take n5).map cW)
 ge3:w.heap.size≤g3
 ge2:w.heap.size≤g2
 ne:g3≠g2
theorem LfS.below {w X Y:World} {x:SA} {r:RL} {g1 g2 g3:Nat} {V1 V2 V3 V4 V5:Value} {n1 n2 n3 n5:Nat} (h:LfS w X x r g1 g2 g3 V1 V2 V3 V4 V5 n1 n2 n3 n5) (hb:Below X.heap.size X Y):LfS w Y x r g1 g2 g3 V1 V2 V3 V4 V5 n1 n2 n3 n5:=
 ⟨below_step h.bel hb,blk_below h.b1 hb,blk_below h.b2 hb,blk_below h.b3 hb,Kd.R_below h.o1 hb,Kd.R_below h.o2 hb,Kd.R_below h.o3 hb,Kd.R_below h.o4 hb,Kd.R_below h.o5 hb,h.ge3,h.ge2,h.ne⟩
theorem LfS.put1 {w X Y:World} {x:SA} {r:RL} {g1 g2 g3:Nat} {V1 V2 V3 V4 V5:Value} {n1 n2 n3 n5:Nat} {v9:Value} (h:LfS w X x r g1 g2 g3 V1 V2 V3 V4 V5 n1 n2 n3 n5) (hg:X.grownBy Y V1.ownBlock) (hb:Below w.heap.size w Y)
  (ho:Kd.R k56 56 Y w.heap.size (fun k=>k≠g3) v9 ((r.l1.take (n1+1)).map cR)):LfS w (Y.setCell ⟨g3,1,none⟩ v9) x r g1 g2 g3 v9 V2 V3 V4 V5 (n1+1) n2 n3 n5:=
 have e1:=blk_grown h.b1 hg (Kd.R_ne h.o1 h.b1 (by decide))
 have e2:=blk_grown h.b2 hg (Kd.R_ne h.o1 h.b2 (by decide))
 have e3:=blk_grown h.b3 hg (Kd.R_ne h.o1 h.b3 (by decide))
 ⟨below_set hb h.ge3,blk_far e1 (blk_ne e1 e3 (by decide)) _,blk_far e2 (Ne.symm h.ne) _,blk_set e3 1 _,
  Kd.R_far ho (fun k hk=>hk) _,Kd.R_far (Kd.R_over' h.o2 (Kd.R_typed h.o1) (by decide) hg) (fun k hk=>hk) _,Kd.R_far (Kd.R_over' h.o3 (Kd.R_typed h.o1) (by decide) hg) (fun k hk=>hk) _,Kd.R_far (Kd.R_over' h.o4 (Kd.R_typed h.o1) (by decide) hg) (fun k hk=>hk) _,Kd.R_far (Kd.R_over' h.o5 (Kd.R_typed h.o1) (by decide) hg) (fun k hk=>hk) _,h.ge3,h.ge2,h.ne⟩
theorem LfS.put2 {w X Y:World} {x:SA} {r:RL} {g1 g2 g3:Nat} {V1 V2 V3 V4 V5:Value} {n1 n2 n3 n5:Nat} {v9:Value} (h:LfS w X x r g1 g2 g3 V1 V2 V3 V4 V5 n1 n2 n3 n5) (hg:X.grownBy Y V2.ownBlock) (hb:Below w.heap.size w Y)
  (ho:Kd.R k135 135 Y w.heap.size (fun k=>k≠g3) v9 ((r.l2.take (n2+1)).map cB)):LfS w (Y.setCell ⟨g3,2,none⟩ v9) x r g1 g2 g3 V1 v9 V3 V4 V5 n1 (n2+1) n3 n5:=
 have e1:=blk_grown h.b1 hg (Kd.R_ne h.o2 h.b1 (by decide))
 have e2:=blk_grown h.b2 hg (Kd.R_ne h.o2 h.b2 (by decide))
 have e3:=blk_grown h.b3 hg (Kd.R_ne h.o2 h.b3 (by decide))
 ⟨below_set hb h.ge3,blk_far e1 (blk_ne e1 e3 (by decide)) _,blk_far e2 (Ne.symm h.ne) _,blk_set e3 2 _,
  Kd.R_far (Kd.R_over' h.o1 (Kd.R_typed h.o2) (by decide) hg) (fun k hk=>hk) _,Kd.R_far ho (fun k hk=>hk) _,Kd.R_far (Kd.R_over' h.o3 (Kd.R_typed h.o2) (by decide) hg) (fun k hk=>hk) _,Kd.R_far (Kd.R_over' h.o4 (Kd.R_typed h.o2) (by decide) hg) (fun k hk=>hk) _,Kd.R_far (Kd.R_over' h.o5 (Kd.R_typed h.o2) (by decide) hg) (fun k hk=>hk) _,h.ge3,h.ge2,h.ne⟩
theorem LfS.put3 {w X Y:World} {x:SA} {r:RL} {g1 g2 g3:Nat} {V1 V2 V3 V4 V5:Value} {n1 n2 n3 n5:Nat} {v9:Value} (h:LfS w X x r g1 g2 g3 V1 V2 V3 V4 V5 n1 n2 n3 n5) (hg:X.grownBy Y V3.ownBlock) (hb:Below w.heap.size w Y)
  (ho:Kd.R k126 126 Y w.heap.size (fun k=>k≠g3) v9 ((r.l3.take (n3+1)).map cC)):LfS w (Y.setCell ⟨g3,3,none⟩ v9) x r g1 g2 g3 V1 V2 v9 V4 V5 n1 n2 (n3+1) n5:=
 have e1:=blk_grown h.b1 hg (Kd.R_ne h.o3 h.b1 (by decide))
 have e2:=blk_grown h.b2 hg (Kd.R_ne h.o3 h.b2 (by decide))
 have e3:=blk_grown h.b3 hg (Kd.R_ne h.o3 h.b3 (by decide))
 ⟨below_set hb h.ge3,blk_far e1 (blk_ne e1 e3 (by decide)) _,blk_far e2 (Ne.symm h.ne) _,blk_set e3 3 _,
  Kd.R_far (Kd.R_over' h.o1 (Kd.R_typed h.o3) (by decide) hg) (fun k hk=>hk) _,Kd.R_far (Kd.R_over' h.o2 (Kd.R_typed h.o3) (by decide) hg) (fun k hk=>hk) _,Kd.R_far ho (fun k hk=>hk) _,Kd.R_far (Kd.R_over' h.o4 (Kd.R_typed h.o3) (by decide) hg) (fun k hk=>hk) _,Kd.R_far (Kd.R_over' h.o5 (Kd.R_typed h.o3) (by decide) hg) (fun k hk=>hk) _,h.ge3,h.ge2,h.ne⟩
theorem LfS.put5 {w X Y:World} {x:SA} {r:RL} {g1 g2 g3:Nat} {V1 V2 V3 V4 V5:Value} {n1 n2 n3 n5:Nat} {v9:Value} (h:LfS w X x r g1 g2 g3 V1 V2 V3 V4 V5 n1 n2 n3 n5) (hg:X.grownBy Y V5.ownBlock) (hb:Below w.heap.size w Y)
  (ho:Kd.R k137 137 Y w.heap.size (fun k=>k≠g3) v9 ((r.l5.take (n5+1)).map cW)):LfS w (Y.setCell ⟨g3,5,none⟩ v9) x r g1 g2 g3 V1 V2 V3 V4 v9 n1 n2 n3 (n5+1):=
 have e1:=blk_grown h.b1 hg (Kd.R_ne h.o5 h.b1 (by decide))
 have e2:=blk_grown h.b2 hg (Kd.R_ne h.o5 h.b2 (by decide))
 have e3:=blk_grown h.b3 hg (Kd.R_ne h.o5 h.b3 (by decide))
 ⟨below_set hb h.ge3,blk_far e1 (blk_ne e1 e3 (by decide)) _,blk_far e2 (Ne.symm h.ne) _,blk_set e3 5 _,
  Kd.R_far (Kd.R_over' h.o1 (Kd.R_typed h.o5) (by decide) hg) (fun k hk=>hk) _,Kd.R_far (Kd.R_over' h.o2 (Kd.R_typed h.o5) (by decide) hg) (fun k hk=>hk) _,Kd.R_far (Kd.R_over' h.o3 (Kd.R_typed h.o5) (by decide) hg) (fun k hk=>hk) _,Kd.R_far (Kd.R_over' h.o4 (Kd.R_typed h.o5) (by decide) hg) (fun k hk=>hk) _,Kd.R_far ho (fun k hk=>hk) _,h.ge3,h.ge2,h.ne⟩
theorem take_map {α β:Type} (f:α→β) (xs:List α) (z:α) (i:Nat) (h:i < xs.length):(xs.take (i+1)).map f=(xs.take i).map f++ [f (xs.getD i z)]:=by
 rw [List.take_succ_eq_append_getElem h,List.map_append,List.getD_eq_getElem?_getD,List.getElem?_eq_getElem h];rfl
end Go.Proofs.Ytjifalohjlihaaa.Q
end
