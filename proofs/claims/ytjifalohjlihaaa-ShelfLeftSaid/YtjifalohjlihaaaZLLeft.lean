/- ShelfLeft returns true, whatever its arguments are; the arguments read as they did. There are no conditions. -/
import Derived.Test.YtjifalohjlihaaaA5
import Derived.Below
import Derived.ChangeOld
import Derived.ChangeSlices
import Derived.Deep.Slices
import Derived.Deep.Strs
import Derived.OpenShut
import Derived.ProofKit
import Derived.ShutString
import Derived.SizedLaws
import Derived.WalkKit
import Derived.Test.YtjifalohjlihaaaRows
section
namespace Go.Proofs.Ytjifalohjlihaaa.Q
set_option linter.unusedVariables false
open Go.BigFrame Go.RowKit Go.Shelf Go.Proofs.YtjifalohjlihaaaW.PrintWords Go.Proofs.YtjifalohjlihaaaW.PrintLast Go.Proofs.YtjifalohjlihaaaW.PrintMore
theorem list_at (A:Option Addr) (c:Nat) (l:List Int) (w:World) (h:Kd.C (Kd.int .i64) w A l.length l) (hc:l.length≤c) (hl:l.length≤1000):
  Calls Try.prog 23 #[.slice A l.length c] w fun e w'=>∃A' c',e= .returned (.slice A' l.length c')∧l.length≤c'∧Kd.C (Kd.int .i64) w' A' l.length l∧Below w.heap.size w w':=
 (anillaw06_list.calls A c l l w h hc (by unfold anillaw06_list.f;rw [if_pos (by omega)])).mono (by
  rintro e w' ⟨v,rfl,ho,hb⟩
  obtain⟨A',c',rfl,hl,hC⟩:=Kd.R_reads ho
  exact⟨A',c',rfl,hl,hC,hb⟩)
set_option maxRecDepth 100000 in
set_option maxHeartbeats 6400000 in
theorem can_calls (x:SA) (r:RL) (w:World) (hr:RRd w x r) (t1:r.l1.length≤1000) (t2:r.l2.length≤1000) (t3:r.l3.length≤1000) (t4:r.l4.length≤1000) (t5:r.l5.length≤1000):
  Calls Try.prog 50 #[.agg (r.cells x)] w fun e w'=>e= .returned (.bool (decide (r.sl.stuckErr r.l4=0∨r.sl.stuckErr r.l4=7)))∧Below w.heap.size w w':=by
 obtain⟨A1,c1,A2,c2,A3,c3,A4,c4,A5,c5⟩:=x
 have HB:=Aside0.mk (Below.refl w.heap.size w)
 have HR:=Aside0.mk hr
 obtain⟨er,her⟩:∃er,er=r.sl.stuckErr r.l4:=⟨_,rfl⟩
 obtain⟨st,hst⟩:∃st,st=r.sl.stuckOf r.l4:=⟨_,rfl⟩
 rw [←her]
 obtain⟨d,hd⟩:∃d,d=decide (er=0∨er=7):=⟨_,rfl⟩
 have HER:=Aside0.mk her
 have HST:=Aside0.mk hst
 have HD:=Aside0.mk hd
 rw [←hd]
 clear hr her hst hd
 go_enter Try.func50,Try.ntmps50
 go_upto_region 1 with(first|((with_reducible refine gate_dst (N:=1) rfl ?_);refine box_event ?hg (N:=1) ?hd (cs:=#[.int .i64 r.a0,.slice A1 r.l1.length c1,.slice A2 r.l2.length c2,.slice A3 r.l3.length c3,.slice A4 r.l4.length c4,.slice A5 r.l5.length c5]) (t:=28) ?hr ?_;(case hd=>rfl);(case hg=>rfl);(case hr=>first|(go_simp;done)|(go_simp;rfl));intro g1 hg_ w1 hbx_ hb_;have BK1:=Aside0.mk hbx_;have g1ge:w.heap.size≤g1:=(by have:=below_size HB.out;omega);have g1GE:=Aside0.mk g1ge;clear g1ge;have HBn:=Aside0.mk (below_step HB.out hb_);clear HB hg_ hb_ hbx_;have HB:=HBn;clear HBn))
 have hbd:=below_drew1 (Below.refl w1.heap.size w1)
 refine wp_open 10 _ (fun v=> {tmps:=#[.agg (r.cells ⟨A1,c1,A2,c2,A3,c3,A4,c4,A5,c5⟩),.pointer (some ⟨g1,0,none⟩),.bool false,v 9,undef,v 6,v 0,v 1,v 2,v 3,v 4,v 5,v 7,v 8,undef,undef,undef,undef,undef,undef],defers:= []}) (fun _=>undef) (fun j x X=>match j with
   |0=>x= .agg (r.cells ⟨A1,c1,A2,c2,A3,c3,A4,c4,A5,c5⟩)
   |1=>∃x':SA,x= .agg (x'.cells r.sl)∧Rd X x' r.sl
   |2=>x= .pointer (some ⟨g1,4,none⟩)
   |3=>x= .slice A4 r.l4.length c4
   |4=>∃A c,x= .slice A r.l4.length c∧r.l4.length≤c∧Kd.C (Kd.int .i64) X A r.l4.length r.l4
   |5=>x= .tuple #[.int .i64 st,.int .i64 er]
   |6=>x= .tuple #[.int .i64 st,.int .i64 er]
   |7=>x= .int .i64 st
   |8=>x= .int .i64 er
   |9=>x= .int .i64 st
   |_=>True) (fun X=>Below w1.drew.heap.size w1.drew X) (by kernel_rfl) rfl rfl (by kernel_rfl) rfl (Below.refl _ _) ?_ ?_ ?_
 ·intro j hj x X W' hb h
  obtain rfl|rfl|rfl|rfl|rfl|rfl|rfl|rfl|rfl|rfl:j=0∨j=1∨j=2∨j=3∨j=4∨j=5∨j=6∨j=7∨j=8∨j=9:=by omega
  all_goals first
   |exact h
   |(obtain⟨x',e,h1⟩:=h;exact⟨x',e,h1.below hb⟩)
   |(obtain⟨A,c,e,h1,h2⟩:=h;exact⟨A,c,e,h1,Kd.C_below h2 hb⟩)
 ·intro i hi
  obtain rfl|rfl|rfl|rfl|rfl|rfl|rfl|rfl|rfl|rfl:i=0∨i=1∨i=2∨i=3∨i=4∨i=5∨i=6∨i=7∨i=8∨i=9:=by omega
  ·intro v X hB hj K hK
   have f0:X.cell? ⟨g1,0,none⟩=some (.int .i64 r.a0):=(blk_cell (blk_below BK1.out (below_step hbd hB)) 0).trans rfl
   have f1:X.cell? ⟨g1,1,none⟩=some (.slice A1 r.l1.length c1):=(blk_cell (blk_below BK1.out (below_step hbd hB)) 1).trans rfl
   have f2:X.cell? ⟨g1,2,none⟩=some (.slice A2 r.l2.length c2):=(blk_cell (blk_below BK1.out (below_step hbd hB)) 2).trans rfl
   have f3:X.cell? ⟨g1,3,none⟩=some (.slice A3 r.l3.length c3):=(blk_cell (blk_below BK1.out (below_step hbd hB)) 3).trans rfl
   have f4:X.cell? ⟨g1,4,none⟩=some (.slice A4 r.l4.length c4):=(blk_cell (blk_below BK1.out (below_step hbd hB)) 4).trans rfl
   have f5:X.cell? ⟨g1,5,none⟩=some (.slice A5 r.l5.length c5):=(blk_cell (blk_below BK1.out (below_step hbd hB)) 5).trans rfl
   refine wpOp_step (i:=0) (by rfl) (fun K' hK'=> ?_)
   refine value_ (w1:= ?_) (v:= ?_) (by rfl) rfl ?_ ?_
   rotate_left 2
   ·go_simp
    constructor
    ·rfl
    ·rfl
   exact hK' _ _ (hK _ _ (rfl) hB (Below.refl _ _))
  ·intro v X hB hj K hK
   have h0:v 0= .agg (r.cells ⟨A1,c1,A2,c2,A3,c3,A4,c4,A5,c5⟩):=hj 0 (needs_mem (by kernel_rfl))
   refine wpOp_step (i:=1) (by rfl) (fun K' hK'=> ?_)
   refine goes_ Try.func22 (by kernel_rfl) rfl #[.agg (r.cells ⟨A1,c1,A2,c2,A3,c3,A4,c4,A5,c5⟩)] (by rfl) rfl rfl (by simp only [List.map_toArray,List.map_cons,List.map_nil];show #[v 0]=_;rw [h0]) ?_
   refine(Loft_calls ⟨A1,c1,A2,c2,A3,c3,A4,c4,A5,c5⟩ r X (RRd.below HR.out (below_step HB.out (below_step hbd hB))) t1 t2 t3 t4 t5).mono ?_
   rintro e w' ⟨x',rfl,hr',hb⟩
   exact⟨_,rfl,hK' _ _ (hK _ _ ⟨x',rfl,hr'⟩ (below_step hB hb) hb)⟩
  ·intro v X hB hj K hK
   refine wpOp_step (i:=2) (by rfl) (fun K' hK'=> ?_)
   refine value_ (w1:= ?_) (v:= ?_) (by rfl) rfl ?_ ?_
   rotate_left 2
   ·go_simp
    constructor
    ·rfl
    ·rfl
   exact hK' _ _ (hK _ _ (rfl) hB (Below.refl _ _))
  ·intro v X hB hj K hK
   have h2:v 2= .pointer (some ⟨g1,4,none⟩):=hj 2 (needs_mem (by kernel_rfl))
   have f4:X.cell? ⟨g1,4,none⟩=some (.slice A4 r.l4.length c4):=(blk_cell (blk_below BK1.out (below_step hbd hB)) 4).trans rfl
   refine wpOp_step (i:=3) (by rfl) (fun K' hK'=> ?_)
   refine value_ (w1:= ?_) (v:= ?_) (by rfl) rfl ?_ ?_
   rotate_left 2
   ·go_simp
    constructor
    ·rfl
    ·rfl
   exact hK' _ _ (hK _ _ (rfl) hB (Below.refl _ _))
  ·intro v X hB hj K hK
   have h3:v 3= .slice A4 r.l4.length c4:=hj 3 (needs_mem (by kernel_rfl))
   refine wpOp_step (i:=4) (by rfl) (fun K' hK'=> ?_)
   refine goes_ Try.func23 (by kernel_rfl) rfl #[.slice A4 r.l4.length c4] (by rfl) rfl rfl (by simp only [List.map_toArray,List.map_cons,List.map_nil];show #[v 3]=_;rw [h3]) ?_
   refine(list_at A4 c4 r.l4 X (RRd.below HR.out (below_step HB.out (below_step hbd hB))).r4 HR.out.h4 t4).mono ?_
   rintro e w' ⟨A',c',rfl,hl,hC,hb⟩
   exact⟨_,rfl,hK' _ _ (hK _ _ ⟨A',c',rfl,hl,hC⟩ (below_step hB hb) hb)⟩
  ·intro v X hB hj K hK
   obtain⟨x',h1,hr'⟩:=hj 1 (needs_mem (by kernel_rfl))
   obtain⟨A,c,h4,hl,hC⟩:=hj 4 (needs_mem (by kernel_rfl))
   refine wpOp_step (i:=5) (by rfl) (fun K' hK'=> ?_)
   refine goes_ Try.func34 (by kernel_rfl) rfl #[.agg (x'.cells r.sl),.slice A r.l4.length c] (by rfl) rfl rfl (by simp only [List.map_toArray,List.map_cons,List.map_nil];show #[v 1,v 4]=_;rw [h1,h4]) ?_
   refine(Stuck.calls x' r.sl A c r.l4 X hr' hC hl).mono ?_
   rw [←HST.out,←HER.out]
   rintro e w' ⟨rfl,hb⟩
   exact⟨_,rfl,hK' _ _ (hK _ _ rfl (below_step hB hb) hb)⟩
  ·intro v X hB hj K hK
   have h5:v 5= .tuple #[.int .i64 st,.int .i64 er]:=hj 5 (needs_mem (by kernel_rfl))
   refine wpOp_step (i:=6) (by rfl) (fun K' hK'=> ?_)
   refine value_ (w1:= ?_) (v:= ?_) (by rfl) rfl ?_ ?_
   rotate_left 2
   ·go_simp
    constructor
    ·rfl
    ·rfl
   exact hK' _ _ (hK _ _ (rfl) hB (Below.refl _ _))
  ·intro v X hB hj K hK
   have h6:v 6= .tuple #[.int .i64 st,.int .i64 er]:=hj 6 (needs_mem (by kernel_rfl))
   refine wpOp_step (i:=7) (by rfl) (fun K' hK'=> ?_)
   refine value_ (w1:= ?_) (v:= ?_) (by rfl) rfl ?_ ?_
   rotate_left 2
   ·go_simp
    constructor
    ·rfl
    ·rfl
   exact hK' _ _ (hK _ _ (rfl) hB (Below.refl _ _))
  ·intro v X hB hj K hK
   have h6:v 6= .tuple #[.int .i64 st,.int .i64 er]:=hj 6 (needs_mem (by kernel_rfl))
   refine wpOp_step (i:=8) (by rfl) (fun K' hK'=> ?_)
   refine value_ (w1:= ?_) (v:= ?_) (by rfl) rfl ?_ ?_
   rotate_left 2
   ·go_simp
    constructor
    ·rfl
    ·rfl
   exact hK' _ _ (hK _ _ (rfl) hB (Below.refl _ _))
  ·intro v X hB hj K hK
   have h7:v 7= .int .i64 st:=hj 7 (needs_mem (by kernel_rfl))
   refine wpOp_step (i:=9) (by rfl) (fun K' hK'=> ?_)
   refine value_ (w1:= ?_) (v:= ?_) (by rfl) rfl ?_ ?_
   rotate_left 2
   ·go_simp
    constructor
    ·rfl
    ·rfl
   exact hK' _ _ (hK _ _ (rfl) hB (Below.refl _ _))
 ·intro v X hB hj K hK
  have h8:v 8= .int .i64 er:=hj 8 (needs_mem (by kernel_rfl))
  refine wpOp_step (i:=10) (by rfl) (fun K' hK'=> ?_)
  refine value_ (w1:= ?_) (v:= ?_) (by rfl) rfl ?_ ?_
  rotate_left 2
  ·go_simp
   constructor
   ·rfl
   ·rfl
  refine hK' _ _ (hK _ _ ?_)
  have HBW:=Aside0.mk (below_step HB.out (below_step hbd hB))
  clear hB hj hK hK'
  by_cases c1_:er=0
  ·have e1:(er==0)=true:=by rw [c1_];rfl
   have HV:=Aside0.mk (show d=true by rw [HD.out];exact decide_eq_true (.inl c1_))
   clear c1_
   go_wp2
   go_ret
   exact⟨by rw [HV.out];rfl,HBW.out⟩
  ·have e1:(er==0)=false:=by rw [beq_eq_false_iff_ne];exact c1_
   by_cases c2_:er=7
   ·have e2:(er==7)=true:=by rw [c2_];rfl
    have HV:=Aside0.mk (show d=true by rw [HD.out];exact decide_eq_true (.inr c2_))
    clear c1_ c2_
    go_wp2
    go_ret
    exact⟨by rw [HV.out];rfl,HBW.out⟩
   ·have e2:(er==7)=false:=by rw [beq_eq_false_iff_ne];exact c2_
    have HV:=Aside0.mk (show d=false by rw [HD.out];exact decide_eq_false (fun h=>h.elim c1_ c2_))
    clear c1_ c2_
    go_wp2
    go_ret
    exact⟨by rw [HV.out];rfl,HBW.out⟩
end Go.Proofs.Ytjifalohjlihaaa.Q
end
section
namespace Go.Proofs.Ytjifalohjlihaaa.Q
set_option linter.unusedVariables false
open Go.BigFrame Go.RowKit Go.Shelf Go.Proofs.YtjifalohjlihaaaW.PrintWords Go.Proofs.YtjifalohjlihaaaW.PrintLast Go.Proofs.YtjifalohjlihaaaW.PrintMore
theorem allB_take {α:Type} {ok:α→Bool} {xs:List α} (k:Nat) (h:allB ok xs=true):allB ok (xs.take k)=true:=by
 unfold allB at*
 rw [List.all_eq_true]at*
 exact fun x hx=>h x (List.mem_of_mem_take hx)
theorem fault_upTo {l:SL} (h:l.fault=0) (k:Nat):(l.upTo k).fault=0:=by
 obtain⟨p1,p2,p3,p4,p5,p6,p7,p8,p9,p10,p11,p12⟩:=fault_zero h
 have hw:(l.upTo k).okWeight=l.okWeight:=rfl
 have e5:allB (l.upTo k).okWeight (l.upTo k).l5=true:=by rw [hw];exact allB_take k p11
 unfold SL.fault
 have a1:¬((l.upTo k).a0 > 5∨(l.upTo k).l2.length > 3∨(l.upTo k).l3.length > 5∨(l.upTo k).l5.length > 5):=by
  have h5:(l.upTo k).l5.length≤l.l5.length:=by unfold SL.upTo;rw [List.length_take];omega
  have b1:(l.upTo k).a0=l.a0:=rfl
  have b2:(l.upTo k).l2=l.l2:=rfl
  have b3:(l.upTo k).l3=l.l3:=rfl
  rw [b1,b2,b3]
  omega
 have a2:¬((l.upTo k).a0 < 0∨((l.upTo k).l1.length:Int)≠(l.upTo k).a0+1∨allB (okRange 9) (l.upTo k).l1=false∨allB okBoard (l.upTo k).l2=false):=by
  show ¬(l.a0 < 0∨(l.l1.length:Int)≠l.a0+1∨allB (okRange 9) l.l1=false∨allB okBoard l.l2=false)
  rw [p7,p8]
  simp
  omega
 have a3:¬(allB (l.upTo k).okCake (l.upTo k).l3=false∨¬(l.upTo k).isPlace (l.upTo k).l4∨allB (l.upTo k).okWeight (l.upTo k).l5=false):=by
  rw [e5]
  show ¬(allB l.okCake l.l3=false∨¬l.isPlace l.l4∨true=false)
  rw [p9]
  exact fun h=>h.elim (fun h=>by cases h) (fun h=>h.elim (fun h=>h p10) (fun h=>by cases h))
 have a4:¬manyOf (l.upTo k).ranges 1 > 2000:=by
  show ¬manyOf l.ranges 1 > 2000
  omega
 rw [if_neg a1,if_neg a2,if_neg a3,if_neg a4]
theorem truths_ne (l:SL):l.truths≠ []↔l.possible []=true:=by
 unfold SL.truths SL.possible
 rw [List.any_eq_true]
 constructor
 ·intro h
  obtain⟨ns,hn⟩:=List.exists_mem_of_ne_nil _ h
  rw [List.mem_filter]at hn
  exact⟨ns,hn.1,hn.2⟩
 ·rintro⟨ns,h1,h2⟩ h
  have:ns∈(enumP l.ranges []).filter fun ns=>l.right ns []:=List.mem_filter.2 ⟨h1,h2⟩
  rw [h]at this
  exact absurd this (by simp)
theorem upTo_all (l:SL):l.upTo l.l5.length=l:=by unfold SL.upTo;rw [List.take_length]
theorem can_upTo {l:SL} (hf:l.fault=0) (k:Nat) (h:(l.upTo k).possible []=true):(l.upTo k).stuckErr l.l4=0∨(l.upTo k).stuckErr l.l4=7:=by
 have hp:decide ((l.upTo k).isPlace l.l4)=true:=decide_eq_true (show l.isPlace l.l4 from(fault_zero hf).2.2.2.2.2.2.2.2.2.1)
 have he:(l.upTo k).err (decide ((l.upTo k).isPlace l.l4))=0:=by
  unfold SL.err
  rw [if_neg (fun h=>h (fault_upTo hf k)),hp,if_neg (by simp),if_neg ((truths_ne _).2 h)]
 unfold SL.stuckErr
 rw [if_neg (fun h=>h he)]
 split
 ·exact .inr rfl
 ·exact .inl rfl
theorem cannot_upTo {l:SL} (hf:l.fault=0) (k:Nat) (h:(l.upTo k).possible []=false):(l.upTo k).stuckErr l.l4=11:=by
 have hp:decide ((l.upTo k).isPlace l.l4)=true:=decide_eq_true (show l.isPlace l.l4 from(fault_zero hf).2.2.2.2.2.2.2.2.2.1)
 have he:(l.upTo k).err (decide ((l.upTo k).isPlace l.l4))=11:=by
  unfold SL.err
  have ht:(l.upTo k).truths= []:=by
   cases e:(l.upTo k).truths with
   |nil=>rfl
   |cons a t=>exact absurd ((truths_ne _).1 (by rw [e];simp)) (by rw [h];simp)
  rw [if_neg (fun h=>h (fault_upTo hf k)),hp,if_neg (by simp),if_pos ht]
 unfold SL.stuckErr
 rw [if_pos (by rw [he];decide),he]
end Go.Proofs.Ytjifalohjlihaaa.Q
end
section
namespace Go.Proofs.Ytjifalohjlihaaa.Q
set_option linter.unusedVariables false
open Go.BigFrame Go.RowKit Go.Shelf Go.Proofs.YtjifalohjlihaaaW.PrintWords Go.Proofs.YtjifalohjlihaaaW.PrintLast Go.Proofs.YtjifalohjlihaaaW.PrintMore Go.ChangeShapes Go.WideShapes Go.Deep
section
variable {H:Type} {enc:TypeId×Value→H} {w:World} {base:Nat} {spare:Nat→Bool} {held:Bool}
set_option maxRecDepth 100000 in
theorem one_int {fuel:Nat} {cs:List Value} {y:DataW H×List MemPlace} (h:DataW.trod enc Try.prog w base spare held fuel 3 cs=some y):∃n,cs= [.int .i64 n]:=by
 cases fuel with
 |zero=>simp [DataW.trod]at h
 |succ fuel=>
  unfold DataW.trod at h
  rw [Try.underlying3]at h
  rcases cs with _|⟨v,_|⟨v2,t⟩⟩
  ·simp at h
  ·cases v<;>simp at h
   exact⟨_,by rw [h.1.1]⟩
  ·cases v<;>simp at h
theorem field {t:TypeId} {fs:Array Field} (ht:Try.prog.underlying t=some (.struct fs)) {fuel:Nat} {cs:List Value} {y:DataW H×List MemPlace} (h:DataW.trod enc Try.prog w base spare held fuel t cs=some y) (i T o c:Nat) (hi:(fs[i]?).map (fun f=>(f.type,f.offset))=some (T,o)) (hc:Try.prog.cellsOf T=c):
  ∃m z,DataW.trod enc Try.prog w base spare held m T ((cs.drop o).take c)=some z:=by
 obtain⟨xs,n,_,rfl,hl,hlen,hf⟩:=DataW.trod_struct ht h
 obtain⟨f,hfi,he⟩:=Option.map_eq_some_iff.1 hi
 simp only [Prod.mk.injEq]at he
 have h1:=hf i f hfi
 have hlt:i < xs.length:=by rw [hlen];exact(Array.getElem?_eq_some_iff.1 hfi).1
 rw [List.getElem?_eq_getElem hlt,he.1,he.2,hc]at h1
 exact⟨n,_,h1⟩
theorem struct_len {t:TypeId} {fs:Array Field} (ht:Try.prog.underlying t=some (.struct fs)) {fuel:Nat} {cs:List Value} {y:DataW H×List MemPlace} (h:DataW.trod enc Try.prog w base spare held fuel t cs=some y) (c:Nat) (hc:Try.prog.cellsOf t=c):cs.length=c:=by
 obtain⟨xs,n,_,rfl,hl,hlen,hf⟩:=DataW.trod_struct ht h
 rw [hl,hc]
theorem cellsA:Try.prog.cellsOf 52=2:=by kernel_rfl
theorem cellsB:Try.prog.cellsOf 89=2:=by kernel_rfl
theorem cellsC:Try.prog.cellsOf 54=4:=by kernel_rfl
theorem cellsW:Try.prog.cellsOf 108=4:=by kernel_rfl
theorem open_A {fuel:Nat} {cs:List Value} {y:DataW H×List MemPlace} (h:DataW.trod enc Try.prog w base spare held fuel 52 cs=some y):∃a b,cs= [.int .i64 a,.int .i64 b]:=by
 have hl:=struct_len Try.underlying52 h 2 cellsA
 obtain⟨_,_,h0⟩:=field Try.underlying52 h 0 3 0 1 rfl cells3
 obtain⟨_,_,h1⟩:=field Try.underlying52 h 1 3 1 1 rfl cells3
 match cs,hl with
 | [v0,v1],_=>
  obtain⟨a,ea⟩:=one_int h0
  obtain⟨b,eb⟩:=one_int h1
  simp at ea eb
  exact⟨a,b,by rw [ea,eb]⟩
theorem open_B {fuel:Nat} {cs:List Value} {y:DataW H×List MemPlace} (h:DataW.trod enc Try.prog w base spare held fuel 89 cs=some y):∃a b,cs= [.int .i64 a,.int .i64 b]:=by
 have hl:=struct_len Try.underlying89 h 2 cellsB
 obtain⟨_,_,h0⟩:=field Try.underlying89 h 0 3 0 1 rfl cells3
 obtain⟨_,_,h1⟩:=field Try.underlying89 h 1 3 1 1 rfl cells3
 match cs,hl with
 | [v0,v1],_=>
  obtain⟨a,ea⟩:=one_int h0
  obtain⟨b,eb⟩:=one_int h1
  simp at ea eb
  exact⟨a,b,by rw [ea,eb]⟩
theorem open_C {fuel:Nat} {cs:List Value} {y:DataW H×List MemPlace} (h:DataW.trod enc Try.prog w base spare held fuel 54 cs=some y):∃a b c d,cs= [.int .i64 a,.int .i64 b,.int .i64 c,.int .i64 d]:=by
 have hl:=struct_len Try.underlying54 h 4 cellsC
 obtain⟨_,_,h0⟩:=field Try.underlying54 h 0 3 0 1 rfl cells3
 obtain⟨_,_,h1⟩:=field Try.underlying54 h 1 52 1 2 rfl cellsA
 obtain⟨_,_,h2⟩:=field Try.underlying54 h 2 3 3 1 rfl cells3
 match cs,hl with
 | [v0,v1,v2,v3],_=>
  obtain⟨a,ea⟩:=one_int h0
  obtain⟨b,c,eb⟩:=open_A h1
  obtain⟨d,ed⟩:=one_int h2
  simp at ea eb ed
  exact⟨a,b,c,d,by rw [ea,eb.1,eb.2,ed]⟩
theorem open_W {fuel:Nat} {cs:List Value} {y:DataW H×List MemPlace} (h:DataW.trod enc Try.prog w base spare held fuel 108 cs=some y):∃a b c d,cs= [.int .i64 a,.int .i64 b,.int .i64 c,.int .i64 d]:=by
 have hl:=struct_len Try.underlying108 h 4 cellsW
 obtain⟨_,_,h0⟩:=field Try.underlying108 h 0 3 0 1 rfl cells3
 obtain⟨_,_,h1⟩:=field Try.underlying108 h 1 3 1 1 rfl cells3
 obtain⟨_,_,h2⟩:=field Try.underlying108 h 2 52 2 2 rfl cellsA
 match cs,hl with
 | [v0,v1,v2,v3],_=>
  obtain⟨a,ea⟩:=one_int h0
  obtain⟨b,eb⟩:=one_int h1
  obtain⟨c,d,ed⟩:=open_A h2
  simp at ea eb ed
  exact⟨a,b,c,d,by rw [ea,eb,ed.1,ed.2]⟩
theorem slice_C {α:Type} [Inhabited α] {d:Kd α} {t e:TypeId} (ht:Try.prog.underlying t=some (.slice e)) (hc:Try.prog.cellsOf e=d.sz) (hel:∀ {fuel:Nat} {cs:List Value} {y:DataW H×List MemPlace},DataW.trod enc Try.prog w base (fun _=>true) held fuel e cs=some y→∃p:α,d.K w p cs)
  {fuel:Nat} {cs:List Value} {y:DataW H×List MemPlace} (h:DataW.trod enc Try.prog w base (fun _=>true) held fuel t cs=some y):∃A c xs,cs= [.slice A xs.length c]∧xs.length≤c∧d.C w A xs.length xs:=by
 rcases open_slice ht h with⟨rfl,_⟩|⟨a,len,cap,m,n,D,Pl,rfl,hb,hl,hm,hmm,rfl,hx⟩
 ·exact⟨none,0,[],rfl,Nat.le_refl _,Kd.C_nil _ _⟩
 ·rw [if_pos rfl]at hmm
  obtain⟨f,hf⟩:=choose_lt (α:=α) (n:=len) (p:=fun i p=>∃cs',w.cells? base (a.add (i*Try.prog.cellsOf e)) (Try.prog.cellsOf e)=some cs'∧d.K w p cs') (fun i hi=>by
   obtain⟨cs',h1,h2⟩:=hx i (by omega)
   obtain⟨p,hp⟩:=hel h2
   exact⟨p,cs',h1,hp⟩)
  have hlen:((List.range len).map f).length=len:=by simp
  have hmax:maxLen≤9223372036854775807:=by decide
  refine⟨some a,cap,(List.range len).map f,by rw [hlen],by rw [hlen];exact hl,rfl,by rw [hlen];omega,fun _=>⟨a,rfl,fun j p hj=> ?_⟩⟩
  have hj1:=(List.getElem?_eq_some_iff.1 hj).1
  rw [hlen]at hj1
  rw [List.getElem?_map,List.getElem?_range hj1,Option.map_some]at hj
  obtain rfl:=Option.some.inj hj
  obtain⟨cs',h1,h2⟩:=hf j hj1
  obtain⟨_,hl2,hcell⟩:=World.cells?_some h1
  rw [hc]at hl2 hcell
  refine⟨cs',hl2,h2,fun i u hu=> ?_⟩
  have hi:=(List.getElem?_eq_some_iff.1 hu).1
  have h3:=hcell i (by omega)
  rw [hu,Deep.add_add]at h3
  exact h3
instance:Inhabited S52:=⟨z52⟩
instance:Inhabited S89:=⟨z89⟩
instance:Inhabited S54:=⟨z54⟩
instance:Inhabited S108:=⟨z108⟩
theorem cells_sl:Try.prog.cellsOf 22=1∧Try.prog.cellsOf 23=1∧Try.prog.cellsOf 24=1∧Try.prog.cellsOf 25=1∧Try.prog.cellsOf 26=1:=⟨by kernel_rfl,by kernel_rfl,by kernel_rfl,by kernel_rfl,by kernel_rfl⟩
theorem cellsL:Try.prog.cellsOf 28=6:=by kernel_rfl
theorem open_L {fuel:Nat} {cs:List Value} {y:DataW H×List MemPlace} (h:DataW.trod enc Try.prog w base (fun _=>true) held fuel 28 cs=some y):∃(x:SA) (r:RL),cs.toArray=r.cells x∧RRd w x r:=by
 have hl:=struct_len Try.underlying28 h 6 cellsL
 obtain⟨_,_,h0⟩:=field Try.underlying28 h 0 3 0 1 rfl cells3
 obtain⟨_,_,h1⟩:=field Try.underlying28 h 1 22 1 1 rfl cells_sl.1
 obtain⟨_,_,h2⟩:=field Try.underlying28 h 2 23 2 1 rfl cells_sl.2.1
 obtain⟨_,_,h3⟩:=field Try.underlying28 h 3 24 3 1 rfl cells_sl.2.2.1
 obtain⟨_,_,h4⟩:=field Try.underlying28 h 4 25 4 1 rfl cells_sl.2.2.2.1
 obtain⟨_,_,h5⟩:=field Try.underlying28 h 5 26 5 1 rfl cells_sl.2.2.2.2
 obtain⟨a0,e0⟩:=one_int h0
 obtain⟨A1,c1,l1,e1,k1,q1⟩:=slice_C (d:=k52) Try.underlying22 cellsA (fun h=>by obtain⟨a,b,rfl⟩:=open_A h;exact⟨⟨a,b⟩,k52_mk _ _⟩) h1
 obtain⟨A2,c2,l2,e2,k2,q2⟩:=slice_C (d:=k89) Try.underlying23 cellsB (fun h=>by obtain⟨a,b,rfl⟩:=open_B h;exact⟨⟨a,b⟩,k89_mk _ _⟩) h2
 obtain⟨A3,c3,l3,e3,k3,q3⟩:=slice_C (d:=k54) Try.underlying24 cellsC (fun h=>by obtain⟨a,b,c,d,rfl⟩:=open_C h;exact⟨⟨a,⟨b,c⟩,d⟩,k54_mk _ _⟩) h3
 obtain⟨A4,c4,l4,e4,k4,q4⟩:=slice_C (d:=Kd.int .i64) Try.underlying25 cells3 (fun h=>by obtain⟨a,rfl⟩:=one_int h;exact⟨a,rfl⟩) h4
 obtain⟨A5,c5,l5,e5,k5,q5⟩:=slice_C (d:=k108) Try.underlying26 cellsW (fun h=>by obtain⟨a,b,c,d,rfl⟩:=open_W h;exact⟨⟨a,b,⟨c,d⟩⟩,k108_mk _ _⟩) h5
 match cs,hl with
 | [v0,v1,v2,v3,v4,v5],_=>
  simp at e0 e1 e2 e3 e4 e5
  exact⟨⟨A1,c1,A2,c2,A3,c3,A4,c4,A5,c5⟩,⟨a0,l1,l2,l3,l4,l5⟩,by rw [e0,e1,e2,e3,e4,e5],⟨q1,q2,q3,q4,q5,k1,k2,k3,k4,k5⟩⟩
end
end Go.Proofs.Ytjifalohjlihaaa.Q
end
section
namespace Go.Proofs.Ytjifalohjlihaaa.Q
set_option linter.unusedVariables false
open Go.BigFrame Go.RowKit Go.Shelf Go.Proofs.YtjifalohjlihaaaW.PrintWords Go.Proofs.YtjifalohjlihaaaW.PrintLast Go.Proofs.YtjifalohjlihaaaW.PrintMore Go.ChangeShapes Go.WideShapes Go.Deep
theorem wf_u8 {n:Int} (h:(Lit.int .u8 n).wf=true):∃t:Nat,t < 256∧n=(t:Int):=by
 have h2:IntKind.u8.min≤n∧n≤IntKind.u8.max:=by simpa [Lit.wf] using h
 have h3:0≤n∧n≤255:=h2
 exact⟨n.toNat,by omega,by omega⟩
end Go.Proofs.Ytjifalohjlihaaa.Q
end
section
namespace Go.Proofs.Ytjifalohjlihaaa.Q
set_option linter.unusedVariables false
open Go.BigFrame Go.RowKit Go.Shelf Go.Proofs.YtjifalohjlihaaaW.PrintWords Go.Proofs.YtjifalohjlihaaaW.PrintLast Go.Proofs.YtjifalohjlihaaaW.PrintMore
def bitsOf (n:Nat):List Int:=((List.range 5).filter fun k=>n/2 ^ k%2==1).map Int.ofNat
set_option maxRecDepth 100000 in
theorem Bits_some:∀n:Nat,n < 32→anilref06_Bits.f 9 (n:Int)=some (bitsOf n):=by decide+kernel
theorem Full_some (r:RL) (h:r.l5.length≤5):anilref06_Full.f r.a0 r.l1 r.l2 r.l3 r.l4 r.l5=some (2 ^ r.l5.length-1):=by
 unfold anilref06_Full.f
 obtain⟨n,hn⟩:∃n,n=r.l5.length:=⟨_,rfl⟩
 rw [←hn]at h ⊢
 have e5:n=0∨n=1∨n=2∨n=3∨n=4∨n=5:=by omega
 rcases e5 with rfl|rfl|rfl|rfl|rfl|rfl<;>decide+kernel
end Go.Proofs.Ytjifalohjlihaaa.Q
end
section
namespace Go.Proofs.Ytjifalohjlihaaa.Q
set_option linter.unusedVariables false
open Go.BigFrame Go.RowKit Go.Shelf Go.Proofs.YtjifalohjlihaaaW.PrintWords Go.Proofs.YtjifalohjlihaaaW.PrintLast Go.Proofs.YtjifalohjlihaaaW.PrintMore
def subLoop (F:List Int→Int→List (List Int)) (out:List Int):Nat→Int→List (List Int)
 |0,_=> []
 |k+1,i=>F (out++ [i]) (i+1)++subLoop F out k (i+1)
def subK (n:Nat):Nat→List Int→Int→List (List Int)
 |0,out,_=> [out]
 |m+1,out,i=>subLoop (subK n m) out (n-m-i:Int).toNat i
def subsFrom (n:Nat):Nat→Nat→List (List Int)
 |0,_=> []
 |k+1,m=>subK n m [] 0++subsFrom n k (m+1)
theorem loop_find {F:List Int→Int→Option (List Int)} {G:List Int→Int→List (List Int)} {p:List Int→Bool} (h:∀o i,F o i=(G o i).find? p) (out:List Int):∀(k:Nat) (i:Int),leaveLoop F out k i=(subLoop G out k i).find? p:=by
 intro k
 induction k with
 |zero=>intro i;rfl
 |succ k ih=>
  intro i
  unfold leaveLoop subLoop
  rw [List.find?_append,h,ih]
  cases(G (out++ [i]) (i+1)).find? p<;>rfl
theorem leaveK_find (l:SL):∀(m:Nat) (o:List Int) (i:Int),l.leaveK m o i=(subK l.l5.length m o i).find? l.possible:=by
 intro m
 induction m with
 |zero=>intro o i;unfold SL.leaveK subK;cases h:l.possible o<;>simp [h]
 |succ m ih=>intro o i;unfold SL.leaveK subK;exact loop_find ih o _ i
theorem leavesFrom_find (l:SL):∀(k m:Nat),l.leavesFrom k m=(subsFrom l.l5.length k m).find? l.possible:=by
 intro k
 induction k with
 |zero=>intro m;rfl
 |succ k ih=>
  intro m
  unfold SL.leavesFrom subsFrom
  rw [List.find?_append,leaveK_find,ih]
  cases(subK l.l5.length m [] 0).find? l.possible<;>rfl
def before:List Int→List Int→Bool
 |a::s,b::t=>if a=b then before s t else decide (a < b)
 | [],b=>decide (0 < b.length)
 |_,[]=>false
def shorter (a b:List Int):Bool:=decide (a.length < b.length) || decide (a.length=b.length)&&before a b
def subs (n:Nat):List (List Int):=subsFrom n (n+1) 0
def bitSum (q:List Int) (k:Nat):Int:=(q.take k).foldl (fun b x=>b+2 ^ x.toNat) 0
set_option maxRecDepth 100000 in
theorem subs_good:∀n,n < 6→∀q,q∈subs n→(q.all fun x=>decide (0≤x∧x < n))=true∧q.Pairwise (· < ·)∧q.length≤n:=by decide+kernel
def lessOk (n:Nat):Bool:=(List.range (2 ^ n)).all fun t=>(List.range (subs n).length).all fun j=>!shorter (bitsOf t) ((subs n).getD j []) || ((subs n).take j).contains (bitsOf t)
theorem subs_less:∀n,n < 6→lessOk n=true:=by decide+kernel
def sumOk (n:Nat):Bool:=(subs n).all fun q=>(List.range q.length).all fun k=>bits .or .i64 (bitSum q k) (wrap64 (2 ^ (rd q (k:Int)).toNat))==bitSum q (k+1)
set_option maxRecDepth 100000 in
theorem subs_sum:∀n,n < 6→sumOk n=true:=by decide+kernel
def restOk (n:Nat) (c:Int) (q:List Int):Bool:=decide (0≤c∧c≤31)&&(List.range n).all fun k=>decide ((c/2 ^ k).tmod 2=1)==!q.contains (k:Int)
def restAllOk (n:Nat):Bool:=(subs n).all fun q=>restOk n (bits .andNot .i64 (2 ^ n-1) (bitSum q q.length)) q
set_option maxRecDepth 100000 in
theorem subs_left:∀n,n < 6→restAllOk n=true:=by decide+kernel
def tryOk (n t:Nat):Bool:=(bits .and .i64 (t:Int) (2 ^ n-1)==((t%2 ^ n:Nat):Int))&&restOk n (bits .andNot .i64 (2 ^ n-1) ((t%2 ^ n:Nat):Int)) (bitsOf (t%2 ^ n))
set_option maxRecDepth 100000 in
theorem try_ok:∀n,n < 6→∀t,t < 256→tryOk n t=true:=by decide+kernel
theorem leaves_law {l:SL} (hf:l.fault=0):l.leaves∈subs l.l5.length∧l.possible l.leaves=true∧∀t,t < 2 ^ l.l5.length→l.possible (bitsOf t)=true→shorter (bitsOf t) l.leaves=false:=by
 have hv:=valid_of hf
 have h5:=hv.weight5
 have hne:=leaves_ne hv l.l5.length 0 (by omega)
 rw [leavesFrom_find]at hne
 have e:l.leaves=((subs l.l5.length).find? l.possible).getD []:=by
  unfold SL.leaves subs
  rw [if_neg (fun h=>h hf),leavesFrom_find]
 cases h:(subs l.l5.length).find? l.possible with
 |none=>exact absurd h hne
 |some q=>
  rw [h]at e
  obtain rfl:l.leaves=q:=e
  obtain⟨hq,ps,qs,hs,h2⟩:=List.find?_eq_some_iff_append.1 h
  refine⟨by rw [hs];simp,hq,fun t ht hp=> ?_⟩
  rw [Bool.eq_false_iff]
  intro hsh
  have hl:=subs_less l.l5.length (by omega)
  unfold lessOk at hl
  have h3:=(List.all_eq_true.1 hl) t (List.mem_range.2 ht)
  have h4:=(List.all_eq_true.1 h3) ps.length (List.mem_range.2 (by rw [hs];simp))
  have e1:(subs l.l5.length).getD ps.length []=l.leaves:=by rw [hs];simp [List.getD_eq_getElem?_getD]
  have e2:(subs l.l5.length).take ps.length=ps:=by rw [hs];simp
  rw [e1,e2,hsh]at h4
  have h6:bitsOf t∈ps:=by simpa using h4
  have:=h2 _ h6
  rw [hp]at this
  cases this
theorem rest_at {n:Nat} {c:Int} {q:List Int} (h:restOk n c q=true):(0≤c∧c≤31)∧∀k,k < n→((c/2 ^ k).tmod 2=1↔(k:Int) ∉ q):=by
 unfold restOk at h
 rw [Bool.and_eq_true]at h
 refine⟨of_decide_eq_true h.1,fun k hk=> ?_⟩
 have h2:=(List.all_eq_true.1 h.2) k (List.mem_range.2 hk)
 have h3:decide ((c/2 ^ k).tmod 2=1)=!q.contains (k:Int):=by simpa using h2
 by_cases hm:(k:Int)∈q
 ·rw [List.contains_iff_mem.2 hm]at h3
  exact⟨fun h4=>absurd h4 (of_decide_eq_false h3),fun h4=>absurd hm h4⟩
 ·have h5:q.contains (k:Int)=false:=by rw [Bool.eq_false_iff];exact fun hc=>hm (List.contains_iff_mem.1 hc)
  rw [h5]at h3
  exact⟨fun _=>hm,fun _=>of_decide_eq_true h3⟩
def SL.rightW (l:SL) (ns:List Int) (v:S137):Prop:=v.f2.f0≤rd (l.left ns v.f0 (rd l.l4 v.f0)) (v.f1-(rd_T126 l.l3 v.f0).f0)∧rd (l.left ns v.f0 (rd l.l4 v.f0)) (v.f1-(rd_T126 l.l3 v.f0).f0)≤v.f2.f1
theorem picked_mem (bits:Int) (xs:List S108) (v:S108):∀k,v∈picked bits xs k↔∃j,j < k∧(bits/2 ^ j).tmod 2=1∧v=rd_T108 xs (j:Int):=by
 intro k
 induction k with
 |zero=>unfold picked;exact⟨fun h=>(by cases h),fun ⟨j,h,_⟩=>(by omega)⟩
 |succ k ih=>
  unfold picked
  rw [List.mem_append,ih]
  constructor
  ·rintro(⟨j,h1,h2,h3⟩|h)
   ·exact⟨j,by omega,h2,h3⟩
   ·split at h
    ·rename_i hb;exact⟨k,by omega,hb,by simpa using h⟩
    ·cases h
  ·rintro⟨j,h1,h2,h3⟩
   by_cases e:j=k
   ·subst e;right;rw [if_pos h2];simp [h3]
   ·exact .inl ⟨j,by omega,h2,h3⟩
theorem right_iff (l:SL) (ns:List Int):l.right ns []=true↔∀v∈l.l5,l.rightW ns v:=by
 unfold SL.right
 rw [decide_eq_true_eq]
 constructor
 ·intro h v hv
  obtain⟨j,hj,rfl⟩:=List.mem_iff_getElem.1 hv
  rcases h j hj with h|h
  ·cases h
  ·unfold SL.rightAt rd_T137 at h
   rw [Int.toNat_natCast,List.getD_eq_getElem?_getD,List.getElem?_eq_getElem hj]at h
   exact h
 ·intro h j hj
  right
  have:=h _ (List.getElem_mem hj)
  unfold SL.rightAt rd_T137
  rw [Int.toNat_natCast,List.getD_eq_getElem?_getD,List.getElem?_eq_getElem hj]
  exact this
theorem fault_sub {l:SL} (h:l.fault=0) (ws:List S137) (hl:ws.length≤5) (hw:∀v∈ws,l.okWeight v=true):({l with l5:=ws}:SL).fault=0:=by
 obtain⟨p1,p2,p3,p4,p5,p6,p7,p8,p9,p10,p11,p12⟩:=fault_zero h
 have e5:allB l.okWeight ws=true:=List.all_eq_true.2 hw
 obtain⟨x,hx⟩:∃x,x=({l with l5:=ws}:SL):=⟨_,rfl⟩
 rw [←hx]
 have a1:¬(x.a0 > 5∨x.l2.length > 3∨x.l3.length > 5∨x.l5.length > 5):=by rw [hx];show ¬(l.a0 > 5∨l.l2.length > 3∨l.l3.length > 5∨ws.length > 5);omega
 have a2:¬(x.a0 < 0∨(x.l1.length:Int)≠x.a0+1∨allB (okRange 9) x.l1=false∨allB okBoard x.l2=false):=by
  rw [hx]
  show ¬(l.a0 < 0∨(l.l1.length:Int)≠l.a0+1∨allB (okRange 9) l.l1=false∨allB okBoard l.l2=false)
  rw [p7,p8]
  simp
  omega
 have a3:¬(allB x.okCake x.l3=false∨¬x.isPlace x.l4∨allB x.okWeight x.l5=false):=by
  rw [hx]
  show ¬(allB l.okCake l.l3=false∨¬l.isPlace l.l4∨allB l.okWeight ws=false)
  rw [e5,p9]
  exact fun h=>h.elim (fun h=>by cases h) (fun h=>h.elim (fun h=>h p10) (fun h=>by cases h))
 have a4:¬manyOf x.ranges 1 > 2000:=by
  rw [hx]
  show ¬manyOf l.ranges 1 > 2000
  omega
 unfold SL.fault
 rw [if_neg a1,if_neg a2,if_neg a3,if_neg a4]
theorem okWeight_mem {l:SL} (h:l.fault=0):∀v∈l.l5,l.okWeight v=true:=List.all_eq_true.1 (fault_zero h).2.2.2.2.2.2.2.2.2.2.1
theorem some_sl5 (r:RL) (c:Int):(r.some c).sl= {r.sl with l5:=(picked c r.l5 r.l5.length).map cW}:=rfl
theorem some_fault {r:RL} (h:r.sl.fault=0) (c:Int):(r.some c).sl.fault=0:=by
 have h5:r.l5.length≤5:=by have:=(fault_zero h).2.2.2.1;unfold RL.sl at this;simpa using this
 rw [some_sl5]
 refine fault_sub h _ (by rw [List.length_map];have:=picked_le c r.l5 r.l5.length;omega) (fun v hv=> ?_)
 obtain⟨u,hu,rfl⟩:=List.mem_map.1 hv
 obtain⟨j,hj,_,rfl⟩:=(picked_mem c r.l5 u r.l5.length).1 hu
 refine okWeight_mem h _ ?_
 show cW _∈r.l5.map cW
 refine List.mem_map_of_mem ?_
 unfold rd_T108
 rw [Int.toNat_natCast,List.getD_eq_getElem?_getD,List.getElem?_eq_getElem hj]
 exact List.getElem_mem hj
theorem possible_some {r:RL} {c:Int} {q:List Int} (h:∀k,k < r.l5.length→((c/2 ^ k).tmod 2=1↔(k:Int) ∉ q)):(r.some c).sl.possible []=r.sl.possible q:=by
 have e:∀ns,(r.some c).sl.right ns []=r.sl.right ns q:=by
  intro ns
  rw [Bool.eq_iff_iff,right_iff]
  unfold SL.right
  rw [decide_eq_true_eq]
  have hl:r.sl.l5.length=r.l5.length:=by unfold RL.sl;simp
  constructor
  ·intro hh j hj
   rw [hl]at hj
   by_cases hm:(j:Int)∈q
   ·exact .inl hm
   ·right
    have h1:=hh (cW (rd_T108 r.l5 (j:Int))) (by
     rw [some_sl5]
     exact List.mem_map_of_mem ((picked_mem c r.l5 _ _).2 ⟨j,hj,(h j hj).2 hm,rfl⟩))
    rw [←rd_cW]at h1
    exact h1
  ·intro hh v hv
   rw [some_sl5]at hv
   obtain⟨u,hu,rfl⟩:=List.mem_map.1 hv
   obtain⟨j,hj,hb,rfl⟩:=(picked_mem c r.l5 u r.l5.length).1 hu
   rcases hh j (by rw [hl];exact hj)with h1|h1
   ·exact absurd h1 ((h j hj).1 hb)
   ·rw [←rd_cW]
    exact h1
 unfold SL.possible
 have hr:(r.some c).sl.ranges=r.sl.ranges:=rfl
 rw [hr]
 congr 1
 funext ns
 exact e ns
theorem can_of {l:SL} (hf:l.fault=0) (h:l.possible []=true):l.stuckErr l.l4=0∨l.stuckErr l.l4=7:=by
 have h2:=can_upTo hf l.l5.length (by rw [upTo_all];exact h)
 rwa [upTo_all]at h2
theorem cannot_of {l:SL} (hf:l.fault=0) (h:l.possible []=false):l.stuckErr l.l4=11:=by
 have h2:=cannot_upTo hf l.l5.length (by rw [upTo_all];exact h)
 rwa [upTo_all]at h2
end Go.Proofs.Ytjifalohjlihaaa.Q
end
section
namespace Go.Proofs.Ytjifalohjlihaaa.Q
set_option linter.unusedVariables false
open Go.BigFrame Go.RowKit Go.Shelf Go.Proofs.YtjifalohjlihaaaW.PrintWords Go.Proofs.YtjifalohjlihaaaW.PrintLast Go.Proofs.YtjifalohjlihaaaW.PrintMore
theorem Before_from (xs ys:List Int) (hx:xs.length≤1000) (hy:ys.length≤1000):∀(d i k:Nat),i+d=xs.length→2*d+2≤k→anilref06_Before.l0 k xs ys (i:Int)=some (before (xs.drop i) (ys.drop i)):=by
 intro d
 induction d with
 |zero=>
  intro i k hi hk
  obtain⟨k,rfl⟩:∃j,k=j+2:=⟨k-2,by omega⟩
  unfold anilref06_Before.l0
  rw [if_neg (by omega)]
  unfold anilref06_Before.j1
  rw [if_neg (by simp),List.drop_eq_nil_of_le (by omega)]
  unfold before
  rw [List.length_drop]
  exact congrArg some (decide_eq_decide.2 (by omega))
 |succ d ih=>
  intro i k hi hk
  obtain⟨k,rfl⟩:∃j,k=j+2:=⟨k-2,by omega⟩
  have hxi:i < xs.length:=by omega
  unfold anilref06_Before.l0
  rw [if_pos (by omega)]
  unfold anilref06_Before.j1
  rw [List.drop_eq_getElem_cons hxi]
  by_cases hyi:i < ys.length
  ·rw [decide_eq_true (show(i:Int) <(ys.length:Int)by omega),if_pos rfl,if_pos (by omega),if_pos (by omega),if_pos (by omega),List.drop_eq_getElem_cons hyi]
   have e1:rd xs (i:Int)=xs[i]:=by unfold rd;rw [Int.toNat_natCast,List.getD_eq_getElem?_getD,List.getElem?_eq_getElem hxi];rfl
   have e2:rd ys (i:Int)=ys[i]:=by unfold rd;rw [Int.toNat_natCast,List.getD_eq_getElem?_getD,List.getElem?_eq_getElem hyi];rfl
   have hw:wrap64 ((i:Int)+1)=((i+1:Nat):Int):=by unfold wrap64;omega
   rw [e1,e2,hw,before]
   by_cases e:xs[i]=ys[i]
   ·rw [if_pos e,if_pos e];exact ih (i+1) k (by omega) (by omega)
   ·rw [if_neg e,if_neg e]
  ·rw [decide_eq_false (show ¬(i:Int) <(ys.length:Int)by omega),if_neg (by simp),List.drop_eq_nil_of_le (show ys.length≤i by omega)]
   unfold before
   exact congrArg some (decide_eq_false (by omega))
theorem Before_some (xs ys:List Int) (hx:xs.length≤5) (hy:ys.length≤1000):anilref06_Before.f 12 xs ys=some (before xs ys):=Before_from xs ys (by omega) hy xs.length 0 12 (by omega) (by omega)
theorem Shorter_some (xs ys:List Int) (hx:xs.length≤5) (hy:ys.length≤1000):anilref06_Shorter.f 12 xs ys=some (shorter xs ys):=by
 unfold anilref06_Shorter.f shorter
 by_cases h:xs.length < ys.length
 ·rw [if_pos (by omega),decide_eq_true h];rfl
 ·rw [if_neg (by omega),decide_eq_false h]
  by_cases e:xs.length=ys.length
  ·rw [if_pos (by omega),Before_some xs ys hx hy,decide_eq_true e];rfl
  ·rw [if_neg (by omega),decide_eq_false e];rfl
theorem Full_at (x:SA) (r:RL) (w:World) (hr:RRd w x r) (h:r.l5.length≤5):Calls Try.prog 52 #[.agg (r.cells x)] w fun e w'=>e= .returned (.int .i64 (2 ^ r.l5.length-1))∧Below w.heap.size w w':=
 anilref06_Full.calls r.a0 x.A1 x.c1 r.l1 x.A2 x.c2 r.l2 x.A3 x.c3 r.l3 x.A4 x.c4 r.l4 x.A5 x.c5 r.l5 _ w hr.r1 hr.h1 hr.r2 hr.h2 hr.r3 hr.h3 hr.r4 hr.h4 hr.r5 hr.h5 (Full_some r h)
theorem Bits_at (m:Nat) (hm:m < 32) (w:World):Calls Try.prog 54 #[.int .i64 (m:Int)] w fun e w'=>∃A c,e= .returned (.slice A (bitsOf m).length c)∧(bitsOf m).length≤c∧Kd.C (Kd.int .i64) w' A (bitsOf m).length (bitsOf m)∧Below w.heap.size w w':=
 (anilref06_Bits.calls 9 (m:Int) (bitsOf m) w (Bits_some m hm)).mono (by
  rintro e w' ⟨v,rfl,ho,hb⟩
  obtain⟨A',c',rfl,hl,hC⟩:=Kd.R_reads ho
  exact⟨A',c',rfl,hl,hC,hb⟩)
theorem Shorter_at (A:Option Addr) (c:Nat) (xs:List Int) (B:Option Addr) (d:Nat) (ys:List Int) (w:World) (hA:Kd.C (Kd.int .i64) w A xs.length xs) (hc:xs.length≤c) (hB:Kd.C (Kd.int .i64) w B ys.length ys) (hd:ys.length≤d) (hx:xs.length≤5) (hy:ys.length≤1000):
  Calls Try.prog 53 #[.slice A xs.length c,.slice B ys.length d] w fun e w'=>e= .returned (.bool (shorter xs ys))∧Below w.heap.size w w':=
 (anilref06_Shorter.calls 12 A c xs B d ys _ w hA hc hB hd (Shorter_some xs ys hx hy)).mono (by
  rintro e w' ⟨rfl,nd,rfl⟩
  exact⟨rfl,pw_below_drewN (Below.refl _ _) nd⟩)
end Go.Proofs.Ytjifalohjlihaaa.Q
end
section
namespace Go.Proofs.Ytjifalohjlihaaa.Q
set_option linter.unusedVariables false
open Go.BigFrame Go.RowKit Go.Shelf Go.Proofs.YtjifalohjlihaaaW.PrintWords Go.Proofs.YtjifalohjlihaaaW.PrintLast Go.Proofs.YtjifalohjlihaaaW.PrintMore
structure RV (r:RL):Prop where
 f:r.sl.fault=0
 v:Valid r.sl
 n1:(r.l1.length:Int)=r.a0+1
 n2:r.l2.length≤3
 n3:r.l3.length≤5
 n5:r.l5.length≤5
 n4:r.l4.length=r.l3.length
 a0:0≤r.a0∧r.a0≤5
theorem RV.mk' {r:RL} (h:r.sl.fault=0):RV r:=by
 have hv:=valid_of h
 have e1:r.sl.l1.length=r.l1.length:=by unfold RL.sl;simp
 have e2:r.sl.l2.length=r.l2.length:=by unfold RL.sl;simp
 have e3:r.sl.l3.length=r.l3.length:=by unfold RL.sl;simp
 have e5:r.sl.l5.length=r.l5.length:=by unfold RL.sl;simp
 have h1:=hv.air
 have h2:=hv.shelf3
 have h3:=hv.cake5
 have h4:=hv.put
 have h5:=hv.weight5
 rw [e1]at h1
 rw [e2]at h2
 rw [e3]at h3 h4
 rw [e5]at h5
 exact⟨h,hv,h1,h2,h3,h5,h4,hv.last0,hv.last5⟩
end Go.Proofs.Ytjifalohjlihaaa.Q
end
section
namespace Go.Proofs.Ytjifalohjlihaaa.Q
set_option linter.unusedVariables false
open Go.BigFrame Go.RowKit Go.Shelf Go.Proofs.YtjifalohjlihaaaW.PrintWords Go.Proofs.YtjifalohjlihaaaW.PrintLast Go.Proofs.YtjifalohjlihaaaW.PrintMore
theorem rd_mem {q:List Int} {i:Nat} (hi:i < q.length):rd q i∈q:=by
 unfold rd
 rw [Int.toNat_natCast,List.getD_eq_getElem?_getD,List.getElem?_eq_getElem hi]
 exact List.getElem_mem _
end Go.Proofs.Ytjifalohjlihaaa.Q
end
section
namespace Go.Proofs.Ytjifalohjlihaaa.Q
set_option linter.unusedVariables false
open Go.BigFrame Go.RowKit Go.Shelf Go.Proofs.YtjifalohjlihaaaW.PrintWords Go.Proofs.YtjifalohjlihaaaW.PrintLast Go.Proofs.YtjifalohjlihaaaW.PrintMore
theorem subs_at {n:Nat} {q:List Int} (h:(q.all fun x=>decide (0≤x∧x < n))=true∧q.Pairwise (· < ·)∧q.length≤n) {i:Nat} (hi:i < q.length):(0≤rd q (i:Int)∧rd q (i:Int) < n)∧(0 < i→rd q ((i:Int)-1) < rd q (i:Int)):=by
 refine⟨of_decide_eq_true ((List.all_eq_true.1 h.1) _ (rd_mem hi)),fun h0=> ?_⟩
 obtain⟨j,rfl⟩:∃j,i=j+1:=⟨i-1,by omega⟩
 have h2:=List.pairwise_iff_getElem.1 h.2.1 j (j+1) (by omega) hi (by omega)
 unfold rd
 rw [show(((j+1:Nat):Int)-1).toNat=j by omega,Int.toNat_natCast,List.getD_eq_getElem?_getD,List.getD_eq_getElem?_getD,List.getElem?_eq_getElem hi,List.getElem?_eq_getElem (by omega)]
 exact h2
theorem try_at {n t:Nat} (h:tryOk n t=true):bits .and .i64 (t:Int) (2 ^ n-1)=((t%2 ^ n:Nat):Int)∧restOk n (bits .andNot .i64 (2 ^ n-1) ((t%2 ^ n:Nat):Int)) (bitsOf (t%2 ^ n))=true:=by
 unfold tryOk at h
 rw [Bool.and_eq_true]at h
 exact⟨beq_iff_eq.1 h.1,h.2⟩
theorem some_le (r:RL) (c:Int) (h:r.l5.length≤1000):(r.some c).l5.length≤1000:=Nat.le_trans (picked_le c r.l5 r.l5.length) h
theorem bits_le (m:Nat):(bitsOf m).length≤5:=by
 unfold bitsOf
 rw [List.length_map]
 exact Nat.le_trans (List.length_filter_le _ _) (by simp)
theorem unwanted_g {o:Oper} {y:Nat→Option Bool} {j:Nat} {b c:Bool} (hg:o.guard=some (j,b)) (hy:y j=some c) (h:c≠b):Region.wanted o y=false:=by
 unfold Region.wanted;rw [hg];show(y j==some b)=false;rw [hy];simpa using h
theorem yu {x:Value} (h:x=undef):(match some x with|some (.bool b)=>some b|_=>none)=none:=by rw [h];rfl
theorem unwanted_u {o:Oper} {y:Nat→Option Bool} {j:Nat} {b:Bool} (hg:o.guard=some (j,b)) (hy:y j=none):Region.wanted o y=false:=by
 unfold Region.wanted;rw [hg];show(y j==some b)=false;rw [hy];rfl
theorem sum_at {n:Nat} {q:List Int} (h:sumOk n=true) (hq:q∈subs n) {i:Nat} (hi:i < q.length):bits .or .i64 (bitSum q i) (wrap64 (2 ^ (rd q (i:Int)).toNat))=bitSum q (i+1):=
 beq_iff_eq.1 ((List.all_eq_true.1 ((List.all_eq_true.1 h) q hq)) i (List.mem_range.2 hi))
set_option maxRecDepth 100000 in
set_option maxHeartbeats 6400000 in
theorem ShelfLeft_calls (x:SA) (r:RL) (t:Nat) (ht:t < 256) (w:World) (hr:RRd w x r):
  Calls Try.prog 10 #[.agg (r.cells x),.int .u8 (t:Int)] w fun e w'=>e= .returned (.bool true)∧Below w.heap.size w w':=by
 obtain⟨A1,c1,A2,c2,A3,c3,A4,c4,A5,c5⟩:=x
 have HB:=Aside0.mk (Below.refl w.heap.size w)
 have HR:=Aside0.mk hr
 obtain⟨d,hd⟩:∃d,d=decide (r.thin∧r.sl.fault=0):=⟨_,rfl⟩
 have HD:=Aside0.mk hd
 clear hr hd
 go_enter Try.func10,Try.ntmps10
 cases d with
 |false=>
  go_wp2_with (first|((with_reducible refine gate_dst (N:=2) rfl ?_);refine box_event ?hg (N:=2) ?hd (cs:=#[.int .i64 r.a0,.slice A1 r.l1.length c1,.slice A2 r.l2.length c2,.slice A3 r.l3.length c3,.slice A4 r.l4.length c4,.slice A5 r.l5.length c5]) (t:=28) ?hr ?_;(case hd=>rfl);(case hg=>rfl);(case hr=>first|(go_simp;done)|(go_simp;rfl));intro g1 hg_ w1 hbx_ hb_;have BK1:=Aside0.mk hbx_;have g1ge:w.heap.size≤g1:=(by have:=below_size HB.out;omega);have g1GE:=Aside0.mk g1ge;clear g1ge;have HBn:=Aside0.mk (below_step HB.out hb_);clear HB hg_ hb_ hbx_;have HB:=HBn;clear HBn;have f0:w1.cell? ⟨g1,0,none⟩=some (.int .i64 r.a0):=(blk_cell BK1.out 0).trans rfl;have f1:w1.cell? ⟨g1,1,none⟩=some (.slice A1 r.l1.length c1):=(blk_cell BK1.out 1).trans rfl;have f2:w1.cell? ⟨g1,2,none⟩=some (.slice A2 r.l2.length c2):=(blk_cell BK1.out 2).trans rfl;have f3:w1.cell? ⟨g1,3,none⟩=some (.slice A3 r.l3.length c3):=(blk_cell BK1.out 3).trans rfl;have f4:w1.cell? ⟨g1,4,none⟩=some (.slice A4 r.l4.length c4):=(blk_cell BK1.out 4).trans rfl;have f5:w1.cell? ⟨g1,5,none⟩=some (.slice A5 r.l5.length c5):=(blk_cell BK1.out 5).trans rfl)|(go_at_call 43;go_must (refine(ready_calls ⟨A1,c1,A2,c2,A3,c3,A4,c4,A5,c5⟩ r _ (RRd.below HR.out HB.out)).mono ?_;rw [←HD.out];clear f0 f1 f2 f3 f4 f5;rintro e wt ⟨rfl,hb⟩;replace BK1:=Aside0.mk (blk_below BK1.out hb);replace HB:=Aside0.mk (below_step HB.out hb);clear hb;have f0:wt.cell? ⟨g1,0,none⟩=some (.int .i64 r.a0):=(blk_cell BK1.out 0).trans rfl;have f1:wt.cell? ⟨g1,1,none⟩=some (.slice A1 r.l1.length c1):=(blk_cell BK1.out 1).trans rfl;have f2:wt.cell? ⟨g1,2,none⟩=some (.slice A2 r.l2.length c2):=(blk_cell BK1.out 2).trans rfl;have f3:wt.cell? ⟨g1,3,none⟩=some (.slice A3 r.l3.length c3):=(blk_cell BK1.out 3).trans rfl;have f4:wt.cell? ⟨g1,4,none⟩=some (.slice A4 r.l4.length c4):=(blk_cell BK1.out 4).trans rfl;have f5:wt.cell? ⟨g1,5,none⟩=some (.slice A5 r.l5.length c5):=(blk_cell BK1.out 5).trans rfl))|(go_at_call 20;go_must (refine(awake_calls _).mono ?_;rintro e wa ⟨rfl,hb⟩;replace HB:=Aside0.mk (below_step HB.out hb);clear hb)))
  go_ret
  exact⟨rfl,HB.out⟩
 |true=>
  have hth:=(of_decide_eq_true HD.out.symm).1
  have t1:r.l1.length≤1000:=by have:=hth.1;omega
  have t2:r.l2.length≤1000:=by have:=hth.2.1;omega
  have t3:r.l3.length≤1000:=by have:=hth.2.2.1;omega
  have t5:r.l5.length≤1000:=by have:=hth.2.2.2.1;omega
  have t4:r.l4.length≤1000:=by have:=hth.2.2.2.2;omega
  have HF:=Aside0.mk (of_decide_eq_true HD.out.symm).2
  have HV:=Aside0.mk (RV.mk' HF.out)
  clear hth
  have n5:=HV.out.n5
  obtain⟨q,hq⟩:∃q,q=r.sl.leaves:=⟨_,rfl⟩
  have HQ:=Aside0.mk hq
  obtain⟨n,hn⟩:∃n,n=r.l5.length:=⟨_,rfl⟩
  have HN:=Aside0.mk hn
  have HLAW:=Aside0.mk (leaves_law HF.out)
  rw [←HQ.out,show r.sl.l5.length=n by unfold RL.sl;simp [hn]]at HLAW
  have hn5:n≤5:=by omega
  clear hq hn
  go_wp2_with (first|((with_reducible refine gate_dst (N:=2) rfl ?_);refine box_event ?hg (N:=2) ?hd (cs:=#[.int .i64 r.a0,.slice A1 r.l1.length c1,.slice A2 r.l2.length c2,.slice A3 r.l3.length c3,.slice A4 r.l4.length c4,.slice A5 r.l5.length c5]) (t:=28) ?hr ?_;(case hd=>rfl);(case hg=>rfl);(case hr=>first|(go_simp;done)|(go_simp;rfl));intro g1 hg_ w1 hbx_ hb_;have BK1:=Aside0.mk hbx_;have g1ge:w.heap.size≤g1:=(by have:=below_size HB.out;omega);have g1GE:=Aside0.mk g1ge;clear g1ge;have HBn:=Aside0.mk (below_step HB.out hb_);clear HB hg_ hb_ hbx_;have HB:=HBn;clear HBn;have f0:w1.cell? ⟨g1,0,none⟩=some (.int .i64 r.a0):=(blk_cell BK1.out 0).trans rfl;have f1:w1.cell? ⟨g1,1,none⟩=some (.slice A1 r.l1.length c1):=(blk_cell BK1.out 1).trans rfl;have f2:w1.cell? ⟨g1,2,none⟩=some (.slice A2 r.l2.length c2):=(blk_cell BK1.out 2).trans rfl;have f3:w1.cell? ⟨g1,3,none⟩=some (.slice A3 r.l3.length c3):=(blk_cell BK1.out 3).trans rfl;have f4:w1.cell? ⟨g1,4,none⟩=some (.slice A4 r.l4.length c4):=(blk_cell BK1.out 4).trans rfl;have f5:w1.cell? ⟨g1,5,none⟩=some (.slice A5 r.l5.length c5):=(blk_cell BK1.out 5).trans rfl)|(go_at_call 43;go_must (refine(ready_calls ⟨A1,c1,A2,c2,A3,c3,A4,c4,A5,c5⟩ r _ (RRd.below HR.out HB.out)).mono ?_;rw [←HD.out];clear f0 f1 f2 f3 f4 f5;rintro e wt ⟨rfl,hb⟩;replace BK1:=Aside0.mk (blk_below BK1.out hb);replace HB:=Aside0.mk (below_step HB.out hb);clear hb;have f0:wt.cell? ⟨g1,0,none⟩=some (.int .i64 r.a0):=(blk_cell BK1.out 0).trans rfl;have f1:wt.cell? ⟨g1,1,none⟩=some (.slice A1 r.l1.length c1):=(blk_cell BK1.out 1).trans rfl;have f2:wt.cell? ⟨g1,2,none⟩=some (.slice A2 r.l2.length c2):=(blk_cell BK1.out 2).trans rfl;have f3:wt.cell? ⟨g1,3,none⟩=some (.slice A3 r.l3.length c3):=(blk_cell BK1.out 3).trans rfl;have f4:wt.cell? ⟨g1,4,none⟩=some (.slice A4 r.l4.length c4):=(blk_cell BK1.out 4).trans rfl;have f5:wt.cell? ⟨g1,5,none⟩=some (.slice A5 r.l5.length c5):=(blk_cell BK1.out 5).trans rfl))|(go_at_call 22;go_must (refine(Loft_calls ⟨A1,c1,A2,c2,A3,c3,A4,c4,A5,c5⟩ r _ (RRd.below HR.out HB.out) t1 t2 t3 t4 t5).mono ?_;clear f0 f1 f2 f3 f4 f5;rintro e wl ⟨x',rfl,hr',hb⟩;replace BK1:=Aside0.mk (blk_below BK1.out hb);replace HB:=Aside0.mk (below_step HB.out hb);clear hb;have HRLx:=Aside0.mk hr';clear hr';have f0:wl.cell? ⟨g1,0,none⟩=some (.int .i64 r.a0):=(blk_cell BK1.out 0).trans rfl;have f1:wl.cell? ⟨g1,1,none⟩=some (.slice A1 r.l1.length c1):=(blk_cell BK1.out 1).trans rfl;have f2:wl.cell? ⟨g1,2,none⟩=some (.slice A2 r.l2.length c2):=(blk_cell BK1.out 2).trans rfl;have f3:wl.cell? ⟨g1,3,none⟩=some (.slice A3 r.l3.length c3):=(blk_cell BK1.out 3).trans rfl;have f4:wl.cell? ⟨g1,4,none⟩=some (.slice A4 r.l4.length c4):=(blk_cell BK1.out 4).trans rfl;have f5:wl.cell? ⟨g1,5,none⟩=some (.slice A5 r.l5.length c5):=(blk_cell BK1.out 5).trans rfl))|(go_at_call 38;go_must (refine(Leave.calls x' r.sl _ HRLx.out).mono ?_;rw [HF.out,←HQ.out];clear f0 f1 f2 f3 f4 f5;rintro e wf ⟨v,rfl,ho,hb⟩;obtain⟨Aq,cq,rfl,hcq,hC⟩:=Kd.R_reads ho;have HCQ:=Aside0.mk hC;replace BK1:=Aside0.mk (blk_below BK1.out hb);replace HB:=Aside0.mk (below_step HB.out hb);clear hb ho hC HRLx;have f0:wf.cell? ⟨g1,0,none⟩=some (.int .i64 r.a0):=(blk_cell BK1.out 0).trans rfl;have f1:wf.cell? ⟨g1,1,none⟩=some (.slice A1 r.l1.length c1):=(blk_cell BK1.out 1).trans rfl;have f2:wf.cell? ⟨g1,2,none⟩=some (.slice A2 r.l2.length c2):=(blk_cell BK1.out 2).trans rfl;have f3:wf.cell? ⟨g1,3,none⟩=some (.slice A3 r.l3.length c3):=(blk_cell BK1.out 3).trans rfl;have f4:wf.cell? ⟨g1,4,none⟩=some (.slice A4 r.l4.length c4):=(blk_cell BK1.out 4).trans rfl;have f5:wf.cell? ⟨g1,5,none⟩=some (.slice A5 r.l5.length c5):=(blk_cell BK1.out 5).trans rfl)))
  clear f0 f1 f2 f3 f4 f5
  have HG:=Aside0.mk (subs_good n (by omega) q HLAW.out.1)
  have HSUM:=Aside0.mk (subs_sum n (by omega))
  obtain⟨m,hm⟩:∃m,m=t%2 ^ n:=⟨_,rfl⟩
  obtain⟨F,hF⟩:∃F:Int,F=2 ^ n-1:=⟨_,rfl⟩
  have hta:=try_at (try_ok n (by omega) t ht)
  rw [←hm,←hF]at hta
  have hm2:m < 2 ^ n:=by rw [hm];exact Nat.mod_lt _ (Nat.two_pow_pos n)
  have hm32:m < 32:=Nat.lt_of_lt_of_le hm2 (Nat.pow_le_pow_right (by decide) hn5)
  have HM2:=Aside0.mk hm2
  clear hm hm2
  obtain⟨cM,hcM⟩:∃c,c=bits .andNot .i64 F (m:Int):=⟨_,rfl⟩
  obtain⟨cL,hcL⟩:∃c,c=bits .andNot .i64 F (bitSum q q.length):=⟨_,rfl⟩
  have hLM:=rest_at hta.2
  have hLL:=rest_at ((List.all_eq_true.1 (subs_left n (by omega))) q HLAW.out.1)
  rw [←hF,←hcL]at hLL
  rw [←hcM]at hLM
  obtain⟨⟨m0,m1⟩,hLM2⟩:=hLM
  obtain⟨⟨l0,l1⟩,hLL2⟩:=hLL
  have HLM:=Aside0.mk hLM2
  have HLL:=Aside0.mk hLL2
  have HCM:=Aside0.mk hcM
  have HCL:=Aside0.mk hcL
  have HAND:=Aside0.mk hta.1
  have HFU:=Aside0.mk (show F=2 ^ r.l5.length-1 by rw [←HN.out];exact hF)
  clear hcM hcL hta hF hLM2 hLL2
  obtain⟨er,her⟩:∃er,er=(r.some cM).sl.stuckErr r.l4:=⟨_,rfl⟩
  obtain⟨st,hst⟩:∃st,st=(r.some cM).sl.stuckOf r.l4:=⟨_,rfl⟩
  have HER:=Aside0.mk her
  have HST:=Aside0.mk hst
  clear her hst
  have HCAN:=Aside0.mk (show(r.some cL).sl.stuckErr r.l4=0∨(r.some cL).sl.stuckErr r.l4=7 from can_of (some_fault HF.out cL) (by
   rw [possible_some (r:=r) (c:=cL) (q:=q) (fun k hk=>HLL.out k (by rw [HN.out];exact hk))];exact HLAW.out.2.1))
  have q5:q.length≤5:=by have:=HG.out.2.2;omega
  go_loopw [7,8] (fun v7 v8 wr=>∃i:Nat,v7= .int .i64 (bitSum q i)∧v8= .int .i64 (i:Int)∧i≤q.length∧Aside0 (wr.heap[g1]? =some (.cells #[.int .i64 r.a0,.slice A1 r.l1.length c1,.slice A2 r.l2.length c2,.slice A3 r.l3.length c3,.slice A4 r.l4.length c4,.slice A5 r.l5.length c5] 28 (0,0)))∧Aside0 (Below w.heap.size w wr)∧Aside0 (Kd.C (Kd.int .i64) wr Aq q.length q)) (fun _ v8 _=>(q.length-intOf v8).toNat)
  case atStart=>exact⟨0,rfl,rfl,Nat.zero_le _,BK1,HB,HCQ⟩
  case round=>
   clear BK1 HB HCQ
   obtain⟨i,rfl,rfl,hi,BK1,HB,HCQ⟩:=hrel
   by_cases hlt:i < q.length
   ·have hli:(i:Int) <(q.length:Int):=by omega
    obtain⟨adq,eq_,fi⟩:=rowB HCQ.out (i:Int) (by omega) (by omega)
    subst eq_
    rw [Int.toNat_natCast]at fi
    have f5:wr.cell? ⟨g1,5,none⟩=some (.slice A5 r.l5.length c5):=(blk_cell BK1.out 5).trans rfl
    have hx:=subs_at HG.out hlt
    have HOR:=Aside0.mk (sum_at HSUM.out HLAW.out.1 hlt)
    obtain⟨y,hy⟩:∃y,y=rd q (i:Int):=⟨_,rfl⟩
    have HY:=Aside0.mk hy
    rw [←hy]at hx HOR fi
    clear hy
    obtain⟨⟨y0,y1⟩,y2⟩:=hx
    have y3:y <(r.l5.length:Int):=by have:=HN.out;omega
    have b1:decide (y < 0)=false:=decide_eq_false (by omega)
    have b2:decide ((r.l5.length:Int)≤y)=false:=decide_eq_false (by omega)
    have hi0:(0:Int)≤(i:Int):=by omega
    by_cases h0:0 < i
    ·have b3:decide (0 <(i:Int))=true:=decide_eq_true (by omega)
     obtain⟨ad2,e2,fj⟩:=rowB HCQ.out ((i:Int)-1) (by omega) (by omega)
     obtain rfl:adq=ad2:=Option.some.inj e2
     have hw1:IntKind.i64.wrap ((i:Int)-1)=(i:Int)-1:=IntWalk.i64_in _ (by omega)
     have hi1:(1:Int)≤(i:Int):=by omega
     have hi2:(i:Int)-1 <(q.length:Int):=by omega
     have b4:decide (y≤rd q ((i:Int)-1))=false:=decide_eq_false (by have:=y2 h0;omega)
     rw [show((i:Int)-1).toNat=i-1 by omega]at fj
     clear y2 e2
     go_wp2
     go_quiet (fail)
     go_wp2
     exact⟨⟨i+1,by rw [HOR.out],by simp,by omega,⟨blk_drewN BK1.out _⟩,⟨pw_below_drewN HB.out _⟩,⟨Kd.C_below HCQ.out (pw_below_drewN (Below.refl _ _) _)⟩⟩,by simp [intOf];omega⟩
    ·have b3:decide (0 <(i:Int))=false:=decide_eq_false (by omega)
     clear y2
     go_wp2
     go_quiet (fail)
     go_wp2
     exact⟨⟨i+1,by rw [HOR.out],by simp,by omega,⟨blk_drewN BK1.out _⟩,⟨pw_below_drewN HB.out _⟩,⟨Kd.C_below HCQ.out (pw_below_drewN (Below.refl _ _) _)⟩⟩,by simp [intOf];omega⟩
   ·obtain rfl:i=q.length:=by omega
    have hli:¬(q.length:Int) <(q.length:Int):=by omega
    have f0:wr.cell? ⟨g1,0,none⟩=some (.int .i64 r.a0):=(blk_cell BK1.out 0).trans rfl
    have f1:wr.cell? ⟨g1,1,none⟩=some (.slice A1 r.l1.length c1):=(blk_cell BK1.out 1).trans rfl
    have f2:wr.cell? ⟨g1,2,none⟩=some (.slice A2 r.l2.length c2):=(blk_cell BK1.out 2).trans rfl
    have f3:wr.cell? ⟨g1,3,none⟩=some (.slice A3 r.l3.length c3):=(blk_cell BK1.out 3).trans rfl
    have f4:wr.cell? ⟨g1,4,none⟩=some (.slice A4 r.l4.length c4):=(blk_cell BK1.out 4).trans rfl
    have f5:wr.cell? ⟨g1,5,none⟩=some (.slice A5 r.l5.length c5):=(blk_cell BK1.out 5).trans rfl
    have ht8:(t:Int)≤255:=by omega
    have ht0:(0:Int)≤(t:Int):=by omega
    go_upto_region 14 with(first|(go_at_call 52;go_must (refine(Full_at ⟨A1,c1,A2,c2,A3,c3,A4,c4,A5,c5⟩ r _ (RRd.below HR.out HB.out) n5).mono ?_;rw [←HFU.out];clear f0 f1 f2 f3 f4 f5;rintro e w13 ⟨rfl,hb⟩;replace BK1:=Aside0.mk (blk_below BK1.out hb);replace HCQ:=Aside0.mk (Kd.C_below HCQ.out hb);replace HB:=Aside0.mk (below_step HB.out hb);clear hb;have f0:w13.cell? ⟨g1,0,none⟩=some (.int .i64 r.a0):=(blk_cell BK1.out 0).trans rfl;have f1:w13.cell? ⟨g1,1,none⟩=some (.slice A1 r.l1.length c1):=(blk_cell BK1.out 1).trans rfl;have f2:w13.cell? ⟨g1,2,none⟩=some (.slice A2 r.l2.length c2):=(blk_cell BK1.out 2).trans rfl;have f3:w13.cell? ⟨g1,3,none⟩=some (.slice A3 r.l3.length c3):=(blk_cell BK1.out 3).trans rfl;have f4:w13.cell? ⟨g1,4,none⟩=some (.slice A4 r.l4.length c4):=(blk_cell BK1.out 4).trans rfl;have f5:w13.cell? ⟨g1,5,none⟩=some (.slice A5 r.l5.length c5):=(blk_cell BK1.out 5).trans rfl)))
    rw [HAND.out]
    clear f0 f1 f2 f3 f4 f5 hli
    have hbd:=below_drew1 (Below.refl w13.heap.size w13)
    refine wp_open 7 _ (fun v=> {tmps:=#[.agg (r.cells (⟨A1,c1,A2,c2,A3,c3,A4,c4,A5,c5⟩:SA)),.int .u8 (t:Int),.pointer (some ⟨g1,0,none⟩),undef,u4,.slice Aq q.length cq,.int .i64 0,.int .i64 (bitSum q q.length),.int .i64 (q.length:Int),.int .i64 (m:Int),v 6,undef,undef,.agg #[.int .i64 r.a0,.slice A1 r.l1.length c1,.slice A2 r.l2.length c2,.slice A3 r.l3.length c3,.slice A4 r.l4.length c4,.slice A5 r.l5.length c5],.bool true,.bool false,undef,.tuple #[.slice Aq q.length cq,.int .i64 0],.agg #[.int .i64 r.a0,.slice A1 r.l1.length c1,.slice A2 r.l2.length c2,.slice A3 r.l3.length c3,.slice A4 r.l4.length c4,.slice A5 r.l5.length c5],.agg (x'.cells r.sl),.tuple #[.slice Aq q.length cq,.int .i64 0],.slice Aq q.length cq,.int .i64 0,.int .i64 0,.bool false,.int .i64 (q.length:Int),.slice Aq q.length cq,.int .i64 (q.length:Int),.bool false,u29,u30,u31,u32,u33,u34,u35,u36,u37,u38,u39,u40,u41,u42,u43,u44,u45,u46,u47,u48,u49,u50,u51,u52,u53,u54,u55,u56,u57,u58,u59,u60,u61,u62,u63,u64,u65,u66,u67,u68,u69,.int .u8 (t:Int),.int .i64 (t:Int),.agg #[.int .i64 r.a0,.slice A1 r.l1.length c1,.slice A2 r.l2.length c2,.slice A3 r.l3.length c3,.slice A4 r.l4.length c4,.slice A5 r.l5.length c5],.int .i64 F,.int .i64 (m:Int),v 0,v 1,v 2,v 3,v 4,v 5,undef,undef,undef,undef,undef,undef,undef,undef,undef,undef,undef,undef,undef,undef,undef,undef,undef,undef,undef,undef,undef,undef,undef,undef,undef,undef,undef,undef,undef,undef,undef,undef,undef,undef],defers:= []}) (fun _=>undef) (fun j x X=>match j with
      |0=>x= .agg (r.cells ⟨A1,c1,A2,c2,A3,c3,A4,c4,A5,c5⟩)
      |1=>x= .agg (r.cells ⟨A1,c1,A2,c2,A3,c3,A4,c4,A5,c5⟩)
      |2=>x= .int .i64 F
      |3=>x= .int .i64 (m:Int)
      |4=>x= .int .i64 cM
      |5=>∃A c,x= .agg (RL.cells (r.some cM) ⟨A1,c1,A2,c2,A3,c3,A4,c4,A,c⟩)∧Kd.R k108 108 X w13.drew.heap.size (fun _=>True) (.slice A (r.some cM).l5.length c) (r.some cM).l5
      |6=>∃g,x= .pointer (some ⟨g,0,none⟩)∧X.heap[g]? =some (.cells #[.int .i64 0,.slice none 0 0,.slice none 0 0,.slice none 0 0,.slice none 0 0,.slice none 0 0] 28 (0,0))∧w13.drew.heap.size≤g
      |_=>True) (fun X=>Below w13.drew.heap.size w13.drew X) (by kernel_rfl) rfl rfl (by kernel_rfl) rfl (Below.refl _ _) ?_ ?_ ?_
    ·intro j hj x X W' hb h
     obtain rfl|rfl|rfl|rfl|rfl|rfl|rfl:j=0∨j=1∨j=2∨j=3∨j=4∨j=5∨j=6:=by omega
     all_goals first|exact h|(obtain⟨y,e,h1⟩:=h;first|exact⟨y,e,Rd.below h1 hb⟩|exact⟨y,e,RRd.below h1 hb⟩)|(obtain⟨A,c,e,h1,h2⟩:=h;exact⟨A,c,e,h1,Kd.C_below h2 hb⟩)|(obtain⟨g,e,h1,h2⟩:=h;exact⟨g,e,blk_below h1 hb,h2⟩)|(obtain⟨A,c,e,h1⟩:=h;exact⟨A,c,e,Kd.R_below h1 hb⟩)
    ·intro i hi
     obtain rfl|rfl|rfl|rfl|rfl|rfl|rfl:i=0∨i=1∨i=2∨i=3∨i=4∨i=5∨i=6:=by omega
     ·intro v X hB hj K hK
      have f0:X.cell? ⟨g1,0,none⟩=some (.int .i64 r.a0):=(blk_cell (blk_below BK1.out (below_step hbd hB)) 0).trans rfl
      have f1:X.cell? ⟨g1,1,none⟩=some (.slice A1 r.l1.length c1):=(blk_cell (blk_below BK1.out (below_step hbd hB)) 1).trans rfl
      have f2:X.cell? ⟨g1,2,none⟩=some (.slice A2 r.l2.length c2):=(blk_cell (blk_below BK1.out (below_step hbd hB)) 2).trans rfl
      have f3:X.cell? ⟨g1,3,none⟩=some (.slice A3 r.l3.length c3):=(blk_cell (blk_below BK1.out (below_step hbd hB)) 3).trans rfl
      have f4:X.cell? ⟨g1,4,none⟩=some (.slice A4 r.l4.length c4):=(blk_cell (blk_below BK1.out (below_step hbd hB)) 4).trans rfl
      have f5:X.cell? ⟨g1,5,none⟩=some (.slice A5 r.l5.length c5):=(blk_cell (blk_below BK1.out (below_step hbd hB)) 5).trans rfl
      refine wpOp_step (i:=0) (by rfl) (fun K' hK'=> ?_)
      refine value_ (w1:= ?_) (v:= ?_) (by rfl) rfl ?_ ?_
      rotate_left 2
      ·go_simp
       constructor
       ·rfl
       ·rfl
      exact hK' _ _ (hK _ _ rfl hB (Below.refl _ _))
     ·intro v X hB hj K hK
      have f0:X.cell? ⟨g1,0,none⟩=some (.int .i64 r.a0):=(blk_cell (blk_below BK1.out (below_step hbd hB)) 0).trans rfl
      have f1:X.cell? ⟨g1,1,none⟩=some (.slice A1 r.l1.length c1):=(blk_cell (blk_below BK1.out (below_step hbd hB)) 1).trans rfl
      have f2:X.cell? ⟨g1,2,none⟩=some (.slice A2 r.l2.length c2):=(blk_cell (blk_below BK1.out (below_step hbd hB)) 2).trans rfl
      have f3:X.cell? ⟨g1,3,none⟩=some (.slice A3 r.l3.length c3):=(blk_cell (blk_below BK1.out (below_step hbd hB)) 3).trans rfl
      have f4:X.cell? ⟨g1,4,none⟩=some (.slice A4 r.l4.length c4):=(blk_cell (blk_below BK1.out (below_step hbd hB)) 4).trans rfl
      have f5:X.cell? ⟨g1,5,none⟩=some (.slice A5 r.l5.length c5):=(blk_cell (blk_below BK1.out (below_step hbd hB)) 5).trans rfl
      refine wpOp_step (i:=1) (by rfl) (fun K' hK'=> ?_)
      refine value_ (w1:= ?_) (v:= ?_) (by rfl) rfl ?_ ?_
      rotate_left 2
      ·go_simp
       constructor
       ·rfl
       ·rfl
      exact hK' _ _ (hK _ _ rfl hB (Below.refl _ _))
     ·intro v X hB hj K hK
      have h1:v 1= .agg (r.cells ⟨A1,c1,A2,c2,A3,c3,A4,c4,A5,c5⟩):=hj 1 (needs_mem (by kernel_rfl))
      refine wpOp_step (i:=2) (by rfl) (fun K' hK'=> ?_)
      refine goes_ Try.func52 (by kernel_rfl) rfl #[.agg (r.cells ⟨A1,c1,A2,c2,A3,c3,A4,c4,A5,c5⟩)] (by rfl) rfl rfl (by simp only [List.map_toArray,List.map_cons,List.map_nil];show #[v 1]=_;rw [h1]) ?_
      refine(Full_at ⟨A1,c1,A2,c2,A3,c3,A4,c4,A5,c5⟩ r X (RRd.below HR.out (below_step HB.out (below_step hbd hB))) n5).mono ?_
      rw [←HFU.out]
      rintro e w' ⟨rfl,hb⟩
      exact⟨_,rfl,hK' _ _ (hK _ _ rfl (below_step hB hb) hb)⟩
     ·intro v X hB hj K hK
      refine wpOp_step (i:=3) (by rfl) (fun K' hK'=> ?_)
      refine value_ (w1:= ?_) (v:= ?_) (by rfl) rfl ?_ ?_
      rotate_left 2
      ·go_simp
       constructor
       ·rfl
       ·rfl
      exact hK' _ _ (hK _ _ rfl hB (Below.refl _ _))
     ·intro v X hB hj K hK
      have h2:v 2= .int .i64 F:=hj 2 (needs_mem (by kernel_rfl))
      have h3:v 3= .int .i64 (m:Int):=hj 3 (needs_mem (by kernel_rfl))
      have e4:bits .andNot .i64 F (m:Int)=cM:=HCM.out.symm
      refine wpOp_step (i:=4) (by rfl) (fun K' hK'=> ?_)
      refine value_ (w1:= ?_) (v:= ?_) (by rfl) rfl ?_ ?_
      rotate_left 2
      ·go_simp
       constructor
       ·rfl
       ·rfl
      exact hK' _ _ (hK _ _ rfl hB (Below.refl _ _))
     ·intro v X hB hj K hK
      have h0:v 0= .agg (r.cells ⟨A1,c1,A2,c2,A3,c3,A4,c4,A5,c5⟩):=hj 0 (needs_mem (by kernel_rfl))
      have h4:v 4= .int .i64 cM:=hj 4 (needs_mem (by kernel_rfl))
      refine wpOp_step (i:=5) (by rfl) (fun K' hK'=> ?_)
      refine goes_ Try.func51 (by kernel_rfl) rfl #[.agg (r.cells ⟨A1,c1,A2,c2,A3,c3,A4,c4,A5,c5⟩),.int .i64 cM] (by rfl) rfl rfl (by simp only [List.map_toArray,List.map_cons,List.map_nil];show #[v 0,v 4]=_;rw [h0,h4]) ?_
      refine(some_own ⟨A1,c1,A2,c2,A3,c3,A4,c4,A5,c5⟩ r cM X (RRd.below HR.out (below_step HB.out (below_step hbd hB))) n5 m0 (by omega)).mono ?_
      rintro e w' ⟨Ao,co,rfl,ho,hb⟩
      exact⟨_,rfl,hK' _ _ (hK _ _ ⟨Ao,co,rfl,Kd.R_lower ho (Below.size hB)⟩ (below_step hB hb) hb)⟩
     ·intro v X hB hj K hK
      refine wpOp_step (i:=6) (by rfl) (fun K' hK'=> ?_)
      refine value_ (w1:= ?_) (v:= ?_) (by rfl) rfl ?_ ?_
      rotate_left 2
      ·go_simp
       constructor
       ·rfl
       ·rfl
      exact hK' _ _ (hK _ _ ⟨_,rfl,blk_new _ _,Below.size hB⟩ (below_alloc hB _) (below_alloc (Below.refl _ _) _))
    ·intro v X hB hj K hK
     obtain⟨B5,d5,h5,o5⟩:=hj 5 (needs_mem (by kernel_rfl))
     obtain⟨g6,h6,b6,e6⟩:=hj 6 (needs_mem (by kernel_rfl))
     refine wpOp_step (i:=7) (by rfl) (fun K' hK'=> ?_)
     rw [if_pos (by rfl)]
     refine wp_store_row 28 (.tmp 10) (.tmp 80) rfl g6 (RL.cells (r.some cM) ⟨A1,c1,A2,c2,A3,c3,A4,c4,B5,d5⟩) (show v 6=_ from h6) (show v 5=_ from h5) 28 #[.int .i64 0,.slice none 0 0,.slice none 0 0,.slice none 0 0,.slice none 0 0,.slice none 0 0] b6 (by kernel_rfl) rfl (by simp [Value.oneCell']) ?_
     refine hK' _ _ (hK _ _ ?_)
     have hX:=(below_step HB.out (below_step hbd hB))
     have b1X:=(blk_below BK1.out (below_step hbd hB))
     have qX:=Kd.C_below HCQ.out (below_step hbd hB)
     have n12:g1≠g6:=by have:=blk_lt BK1.out;have:w13.heap.size=w13.drew.heap.size:=rfl;omega
     have hge:w.heap.size≤g6:=Nat.le_trans (Below.size HB.out) e6
     have o6:=Kd.R_step (Kd.R_mono (Kd.R_types o5 b6 (by decide)) (fun k hk=>hk.2)) (fun k hk _=>setRow_other X g6 k (RL.cells (r.some cM) ⟨A1,c1,A2,c2,A3,c3,A4,c4,B5,d5⟩) hk)
     have BK2:=Aside0.mk (setRow_heap X g6 _ (RL.cells (r.some cM) ⟨A1,c1,A2,c2,A3,c3,A4,c4,B5,d5⟩) 28 (0,0) b6)
     have HBS:=below_setRow hX hge (RL.cells (r.some cM) ⟨A1,c1,A2,c2,A3,c3,A4,c4,B5,d5⟩)
     have hRS:=HR.out.below HBS
     have HR2:=Aside0.mk (show RRd _ ⟨A1,c1,A2,c2,A3,c3,A4,c4,B5,d5⟩ (r.some cM)from⟨hRS.r1,hRS.r2,hRS.r3,hRS.r4,(Kd.R_reads' o6).2.2,HR.out.h1,HR.out.h2,HR.out.h3,HR.out.h4,(Kd.R_reads' o6).2.1⟩)
     replace BK1:=Aside0.mk ((setRow_other X g6 g1 (RL.cells (r.some cM) ⟨A1,c1,A2,c2,A3,c3,A4,c4,B5,d5⟩) n12).trans b1X)
     replace HCQ:=Aside0.mk (Kd.C_below HCQ.out (below_setRow (below_step hbd hB) (Nat.le_trans (Below.size hbd) e6) (RL.cells (r.some cM) ⟨A1,c1,A2,c2,A3,c3,A4,c4,B5,d5⟩)))
     replace HB:=Aside0.mk HBS
     show Exit.then _ _ .normal {tmps:=#[.agg (r.cells (⟨A1,c1,A2,c2,A3,c3,A4,c4,A5,c5⟩:SA)),.int .u8 (t:Int),.pointer (some ⟨g1,0,none⟩),undef,u4,.slice Aq q.length cq,.int .i64 0,.int .i64 (bitSum q q.length),.int .i64 (q.length:Int),.int .i64 (m:Int),v 6,undef,undef,.agg #[.int .i64 r.a0,.slice A1 r.l1.length c1,.slice A2 r.l2.length c2,.slice A3 r.l3.length c3,.slice A4 r.l4.length c4,.slice A5 r.l5.length c5],.bool true,.bool false,undef,.tuple #[.slice Aq q.length cq,.int .i64 0],.agg #[.int .i64 r.a0,.slice A1 r.l1.length c1,.slice A2 r.l2.length c2,.slice A3 r.l3.length c3,.slice A4 r.l4.length c4,.slice A5 r.l5.length c5],.agg (x'.cells r.sl),.tuple #[.slice Aq q.length cq,.int .i64 0],.slice Aq q.length cq,.int .i64 0,.int .i64 0,.bool false,.int .i64 (q.length:Int),.slice Aq q.length cq,.int .i64 (q.length:Int),.bool false,u29,u30,u31,u32,u33,u34,u35,u36,u37,u38,u39,u40,u41,u42,u43,u44,u45,u46,u47,u48,u49,u50,u51,u52,u53,u54,u55,u56,u57,u58,u59,u60,u61,u62,u63,u64,u65,u66,u67,u68,u69,.int .u8 (t:Int),.int .i64 (t:Int),.agg #[.int .i64 r.a0,.slice A1 r.l1.length c1,.slice A2 r.l2.length c2,.slice A3 r.l3.length c3,.slice A4 r.l4.length c4,.slice A5 r.l5.length c5],.int .i64 F,.int .i64 (m:Int),v 0,v 1,v 2,v 3,v 4,v 5,undef,undef,undef,undef,undef,undef,undef,undef,undef,undef,undef,undef,undef,undef,undef,undef,undef,undef,undef,undef,undef,undef,undef,undef,undef,undef,undef,undef,undef,undef,undef,undef,undef,undef],defers:= []} (X.setRow g6 (RL.cells (r.some cM) ⟨A1,c1,A2,c2,A3,c3,A4,c4,B5,d5⟩))
     generalize v 0=z14_0
     generalize v 1=z14_1
     generalize v 2=z14_2
     generalize v 3=z14_3
     generalize v 4=z14_4
     generalize v 5=z_ at h5 ⊢
     subst h5
     generalize v 6=z_ at h6 ⊢
     subst h6
     clear hj hK hK' hB hbd hX b1X qX hge o6 o5 b6 e6 hRS HBS
     generalize X.setRow g6 (RL.cells (r.some cM) ⟨A1,c1,A2,c2,A3,c3,A4,c4,B5,d5⟩)=w14 at HB BK1 BK2 HR2 HCQ ⊢
     go_upto_region 15 with(fail)
     have hbd:=below_drew1 (Below.refl w14.heap.size w14)
     refine wp_open 10 _ (fun v=> {tmps:=#[.agg (r.cells (⟨A1,c1,A2,c2,A3,c3,A4,c4,A5,c5⟩:SA)),.int .u8 (t:Int),.pointer (some ⟨g1,0,none⟩),undef,u4,.slice Aq q.length cq,.int .i64 0,.int .i64 (bitSum q q.length),.int .i64 (q.length:Int),.int .i64 (m:Int),.pointer (some ⟨g6,0,none⟩),v 9,undef,.agg #[.int .i64 r.a0,.slice A1 r.l1.length c1,.slice A2 r.l2.length c2,.slice A3 r.l3.length c3,.slice A4 r.l4.length c4,.slice A5 r.l5.length c5],.bool true,.bool false,undef,.tuple #[.slice Aq q.length cq,.int .i64 0],.agg #[.int .i64 r.a0,.slice A1 r.l1.length c1,.slice A2 r.l2.length c2,.slice A3 r.l3.length c3,.slice A4 r.l4.length c4,.slice A5 r.l5.length c5],.agg (x'.cells r.sl),.tuple #[.slice Aq q.length cq,.int .i64 0],.slice Aq q.length cq,.int .i64 0,.int .i64 0,.bool false,.int .i64 (q.length:Int),.slice Aq q.length cq,.int .i64 (q.length:Int),.bool false,u29,u30,u31,u32,u33,u34,u35,u36,u37,u38,u39,u40,u41,u42,u43,u44,u45,u46,u47,u48,u49,u50,u51,u52,u53,u54,u55,u56,u57,u58,u59,u60,u61,u62,u63,u64,u65,u66,u67,u68,u69,.int .u8 (t:Int),.int .i64 (t:Int),.agg #[.int .i64 r.a0,.slice A1 r.l1.length c1,.slice A2 r.l2.length c2,.slice A3 r.l3.length c3,.slice A4 r.l4.length c4,.slice A5 r.l5.length c5],.int .i64 F,.int .i64 (m:Int),z14_0,z14_1,z14_2,z14_3,z14_4,.agg (RL.cells (r.some cM) ⟨A1,c1,A2,c2,A3,c3,A4,c4,B5,d5⟩),v 6,v 0,v 1,v 2,v 3,v 4,v 5,v 7,v 8,undef,undef,undef,undef,undef,undef,undef,undef,undef,undef,undef,undef,undef,undef,undef,undef,undef,undef,undef,undef,undef,undef,undef,undef,undef],defers:= []}) (fun _=>undef) (fun j x X=>match j with
       |0=>x= .agg (RL.cells (r.some cM) ⟨A1,c1,A2,c2,A3,c3,A4,c4,B5,d5⟩)
       |1=>∃y:SA,x= .agg (y.cells (RL.sl (r.some cM)))∧Rd X y (RL.sl (r.some cM))
       |2=>x= .pointer (some ⟨g1,4,none⟩)
       |3=>x= .slice A4 r.l4.length c4
       |4=>∃A c,x= .slice A (r.l4).length c∧(r.l4).length≤c∧Kd.C (Kd.int .i64) X A (r.l4).length (r.l4)
       |5=>x= .tuple #[.int .i64 st,.int .i64 er]
       |6=>x= .tuple #[.int .i64 st,.int .i64 er]
       |7=>x= .int .i64 st
       |8=>x= .int .i64 er
       |9=>x= .int .i64 st
       |_=>True) (fun X=>Below w14.drew.heap.size w14.drew X) (by kernel_rfl) rfl rfl (by kernel_rfl) rfl (Below.refl _ _) ?_ ?_ ?_
     ·intro j hj x X W' hb h
      obtain rfl|rfl|rfl|rfl|rfl|rfl|rfl|rfl|rfl|rfl:j=0∨j=1∨j=2∨j=3∨j=4∨j=5∨j=6∨j=7∨j=8∨j=9:=by omega
      all_goals first|exact h|(obtain⟨y,e,h1⟩:=h;first|exact⟨y,e,Rd.below h1 hb⟩|exact⟨y,e,RRd.below h1 hb⟩)|(obtain⟨A,c,e,h1,h2⟩:=h;exact⟨A,c,e,h1,Kd.C_below h2 hb⟩)|(obtain⟨g,e,h1,h2⟩:=h;exact⟨g,e,blk_below h1 hb,h2⟩)|(obtain⟨A,c,e,h1⟩:=h;exact⟨A,c,e,Kd.R_below h1 hb⟩)
     ·intro i hi
      obtain rfl|rfl|rfl|rfl|rfl|rfl|rfl|rfl|rfl|rfl:i=0∨i=1∨i=2∨i=3∨i=4∨i=5∨i=6∨i=7∨i=8∨i=9:=by omega
      ·intro v X hB hj K hK
       have f0:X.cell? ⟨g6,0,none⟩=some (.int .i64 r.a0):=(blk_cell (blk_below BK2.out (below_step hbd hB)) 0).trans rfl
       have f1:X.cell? ⟨g6,1,none⟩=some (.slice A1 r.l1.length c1):=(blk_cell (blk_below BK2.out (below_step hbd hB)) 1).trans rfl
       have f2:X.cell? ⟨g6,2,none⟩=some (.slice A2 r.l2.length c2):=(blk_cell (blk_below BK2.out (below_step hbd hB)) 2).trans rfl
       have f3:X.cell? ⟨g6,3,none⟩=some (.slice A3 r.l3.length c3):=(blk_cell (blk_below BK2.out (below_step hbd hB)) 3).trans rfl
       have f4:X.cell? ⟨g6,4,none⟩=some (.slice A4 r.l4.length c4):=(blk_cell (blk_below BK2.out (below_step hbd hB)) 4).trans rfl
       have f5:X.cell? ⟨g6,5,none⟩=some (.slice B5 (r.some cM).l5.length d5):=(blk_cell (blk_below BK2.out (below_step hbd hB)) 5).trans rfl
       refine wpOp_step (i:=0) (by rfl) (fun K' hK'=> ?_)
       refine value_ (w1:= ?_) (v:= ?_) (by rfl) rfl ?_ ?_
       rotate_left 2
       ·go_simp
        constructor
        ·rfl
        ·rfl
       exact hK' _ _ (hK _ _ rfl hB (Below.refl _ _))
      ·intro v X hB hj K hK
       have h0:v 0= .agg (RL.cells (r.some cM) ⟨A1,c1,A2,c2,A3,c3,A4,c4,B5,d5⟩):=hj 0 (needs_mem (by kernel_rfl))
       refine wpOp_step (i:=1) (by rfl) (fun K' hK'=> ?_)
       refine goes_ Try.func22 (by kernel_rfl) rfl #[.agg (RL.cells (r.some cM) ⟨A1,c1,A2,c2,A3,c3,A4,c4,B5,d5⟩)] (by rfl) rfl rfl (by simp only [List.map_toArray,List.map_cons,List.map_nil];show #[v 0]=_;rw [h0]) ?_
       refine(Loft_calls ⟨A1,c1,A2,c2,A3,c3,A4,c4,B5,d5⟩ (r.some cM) X (HR2.out.below (below_step hbd hB)) t1 t2 t3 t4 (some_le r _ t5)).mono ?_
       rintro e w' ⟨y,rfl,hr',hb⟩
       exact⟨_,rfl,hK' _ _ (hK _ _ ⟨y,rfl,hr'⟩ (below_step hB hb) hb)⟩
      ·intro v X hB hj K hK
       refine wpOp_step (i:=2) (by rfl) (fun K' hK'=> ?_)
       refine value_ (w1:= ?_) (v:= ?_) (by rfl) rfl ?_ ?_
       rotate_left 2
       ·go_simp
        constructor
        ·rfl
        ·rfl
       exact hK' _ _ (hK _ _ rfl hB (Below.refl _ _))
      ·intro v X hB hj K hK
       have h2:v 2= .pointer (some ⟨g1,4,none⟩):=hj 2 (needs_mem (by kernel_rfl))
       have f4:X.cell? ⟨g1,4,none⟩=some (.slice A4 r.l4.length c4):=(blk_cell (blk_below BK1.out (below_step hbd hB)) 4).trans rfl
       refine wpOp_step (i:=3) (by rfl) (fun K' hK'=> ?_)
       refine value_ (w1:= ?_) (v:= ?_) (by rfl) rfl ?_ ?_
       rotate_left 2
       ·go_simp
        constructor
        ·rfl
        ·rfl
       exact hK' _ _ (hK _ _ rfl hB (Below.refl _ _))
      ·intro v X hB hj K hK
       have h3:v 3= .slice A4 r.l4.length c4:=hj 3 (needs_mem (by kernel_rfl))
       refine wpOp_step (i:=4) (by rfl) (fun K' hK'=> ?_)
       refine goes_ Try.func23 (by kernel_rfl) rfl #[.slice A4 r.l4.length c4] (by rfl) rfl rfl (by simp only [List.map_toArray,List.map_cons,List.map_nil];show #[v 3]=_;rw [h3]) ?_
       refine(list_at A4 c4 r.l4 X (RRd.below HR.out (below_step HB.out (below_step hbd hB))).r4 HR.out.h4 t4).mono ?_
       rintro e w' ⟨B,d,rfl,hl,hC,hb⟩
       exact⟨_,rfl,hK' _ _ (hK _ _ ⟨B,d,rfl,hl,hC⟩ (below_step hB hb) hb)⟩
      ·intro v X hB hj K hK
       obtain⟨y1,h1,hr1⟩:=hj 1 (needs_mem (by kernel_rfl))
       obtain⟨B4,d4,h4,hl4,hk4⟩:=hj 4 (needs_mem (by kernel_rfl))
       refine wpOp_step (i:=5) (by rfl) (fun K' hK'=> ?_)
       refine goes_ Try.func34 (by kernel_rfl) rfl #[.agg (y1.cells (RL.sl (r.some cM))),.slice B4 (r.l4).length d4] (by rfl) rfl rfl (by simp only [List.map_toArray,List.map_cons,List.map_nil];show #[v 1,v 4]=_;rw [h1,h4]) ?_
       refine(Stuck.calls y1 (RL.sl (r.some cM)) B4 d4 r.l4 X hr1 hk4 hl4).mono ?_
       rw [←HST.out,←HER.out]
       rintro e w' ⟨rfl,hb⟩
       exact⟨_,rfl,hK' _ _ (hK _ _ rfl (below_step hB hb) hb)⟩
      ·intro v X hB hj K hK
       have h5:v 5= .tuple #[.int .i64 st,.int .i64 er]:=hj 5 (needs_mem (by kernel_rfl))
       refine wpOp_step (i:=6) (by rfl) (fun K' hK'=> ?_)
       refine value_ (w1:= ?_) (v:= ?_) (by rfl) rfl ?_ ?_
       rotate_left 2
       ·go_simp
        constructor
        ·rfl
        ·rfl
       exact hK' _ _ (hK _ _ rfl hB (Below.refl _ _))
      ·intro v X hB hj K hK
       have h6:v 6= .tuple #[.int .i64 st,.int .i64 er]:=hj 6 (needs_mem (by kernel_rfl))
       refine wpOp_step (i:=7) (by rfl) (fun K' hK'=> ?_)
       refine value_ (w1:= ?_) (v:= ?_) (by rfl) rfl ?_ ?_
       rotate_left 2
       ·go_simp
        constructor
        ·rfl
        ·rfl
       exact hK' _ _ (hK _ _ rfl hB (Below.refl _ _))
      ·intro v X hB hj K hK
       have h6:v 6= .tuple #[.int .i64 st,.int .i64 er]:=hj 6 (needs_mem (by kernel_rfl))
       refine wpOp_step (i:=8) (by rfl) (fun K' hK'=> ?_)
       refine value_ (w1:= ?_) (v:= ?_) (by rfl) rfl ?_ ?_
       rotate_left 2
       ·go_simp
        constructor
        ·rfl
        ·rfl
       exact hK' _ _ (hK _ _ rfl hB (Below.refl _ _))
      ·intro v X hB hj K hK
       have h7:v 7= .int .i64 st:=hj 7 (needs_mem (by kernel_rfl))
       refine wpOp_step (i:=9) (by rfl) (fun K' hK'=> ?_)
       refine value_ (w1:= ?_) (v:= ?_) (by rfl) rfl ?_ ?_
       rotate_left 2
       ·go_simp
        constructor
        ·rfl
        ·rfl
       exact hK' _ _ (hK _ _ rfl hB (Below.refl _ _))
     ·intro v X hB hj K hK
      have h8:v 8= .int .i64 er:=hj 8 (needs_mem (by kernel_rfl))
      refine wpOp_step (i:=10) (by rfl) (fun K' hK'=> ?_)
      refine value_ (w1:= ?_) (v:= ?_) (by rfl) rfl ?_ ?_
      rotate_left 2
      ·go_simp
       constructor
       ·rfl
       ·rfl
      have hv9:v 9= .int .i64 st:=hj 9 (needs_mem (by kernel_rfl))
      refine hK' _ _ (hK _ _ ?_)
      have hX:=(below_step HB.out (below_step hbd hB))
      replace BK1:=Aside0.mk (blk_below BK1.out (below_step hbd hB))
      replace BK2:=Aside0.mk (blk_below BK2.out (below_step hbd hB))
      replace HR2:=Aside0.mk (HR2.out.below (below_step hbd hB))
      replace HCQ:=Aside0.mk (Kd.C_below HCQ.out (below_step hbd hB))
      replace HB:=Aside0.mk hX
      show Exit.then _ _ .normal {tmps:=#[.agg (r.cells (⟨A1,c1,A2,c2,A3,c3,A4,c4,A5,c5⟩:SA)),.int .u8 (t:Int),.pointer (some ⟨g1,0,none⟩),undef,u4,.slice Aq q.length cq,.int .i64 0,.int .i64 (bitSum q q.length),.int .i64 (q.length:Int),.int .i64 (m:Int),.pointer (some ⟨g6,0,none⟩),v 9,.int .i64 er,.agg #[.int .i64 r.a0,.slice A1 r.l1.length c1,.slice A2 r.l2.length c2,.slice A3 r.l3.length c3,.slice A4 r.l4.length c4,.slice A5 r.l5.length c5],.bool true,.bool false,undef,.tuple #[.slice Aq q.length cq,.int .i64 0],.agg #[.int .i64 r.a0,.slice A1 r.l1.length c1,.slice A2 r.l2.length c2,.slice A3 r.l3.length c3,.slice A4 r.l4.length c4,.slice A5 r.l5.length c5],.agg (x'.cells r.sl),.tuple #[.slice Aq q.length cq,.int .i64 0],.slice Aq q.length cq,.int .i64 0,.int .i64 0,.bool false,.int .i64 (q.length:Int),.slice Aq q.length cq,.int .i64 (q.length:Int),.bool false,u29,u30,u31,u32,u33,u34,u35,u36,u37,u38,u39,u40,u41,u42,u43,u44,u45,u46,u47,u48,u49,u50,u51,u52,u53,u54,u55,u56,u57,u58,u59,u60,u61,u62,u63,u64,u65,u66,u67,u68,u69,.int .u8 (t:Int),.int .i64 (t:Int),.agg #[.int .i64 r.a0,.slice A1 r.l1.length c1,.slice A2 r.l2.length c2,.slice A3 r.l3.length c3,.slice A4 r.l4.length c4,.slice A5 r.l5.length c5],.int .i64 F,.int .i64 (m:Int),z14_0,z14_1,z14_2,z14_3,z14_4,.agg (RL.cells (r.some cM) ⟨A1,c1,A2,c2,A3,c3,A4,c4,B5,d5⟩),v 6,v 0,v 1,v 2,v 3,v 4,v 5,v 7,v 8,undef,undef,undef,undef,undef,undef,undef,undef,undef,undef,undef,undef,undef,undef,undef,undef,undef,undef,undef,undef,undef,undef,undef,undef,undef],defers:= []} (X)
      generalize v 0=z15_0
      generalize v 1=z15_1
      generalize v 2=z15_2
      generalize v 3=z15_3
      generalize v 4=z15_4
      generalize v 5=z15_5
      generalize v 6=z15_6
      generalize v 7=z15_7
      generalize v 8=z15_8
      generalize v 9=z_ at hv9 ⊢
      subst hv9
      clear hj hK hK' hX hB hbd h8
      obtain⟨w15,hw15⟩:∃w_,w_=X:=⟨_,rfl⟩
      rw [←hw15]at BK1 BK2 HR2 HCQ HB ⊢
      clear hw15 X
      cases hp:(r.some cM).sl.possible []with
      |false=>
       have HE:=Aside0.mk (show(er==11)=true by rw [HER.out,show(r.some cM).sl.stuckErr r.l4=11 from cannot_of (some_fault HF.out cM) hp];rfl)
       clear hp
       go_upto_region 16 with(fail)
       have hbd:=below_drew1 (Below.refl w15.heap.size w15)
       refine wp_open 25 _ (fun v=> {tmps:=#[.agg (r.cells (⟨A1,c1,A2,c2,A3,c3,A4,c4,A5,c5⟩:SA)),.int .u8 (t:Int),.pointer (some ⟨g1,0,none⟩),undef,u4,.slice Aq q.length cq,.int .i64 0,.int .i64 (bitSum q q.length),.int .i64 (q.length:Int),.int .i64 (m:Int),.pointer (some ⟨g6,0,none⟩),.int .i64 st,.int .i64 er,.agg #[.int .i64 r.a0,.slice A1 r.l1.length c1,.slice A2 r.l2.length c2,.slice A3 r.l3.length c3,.slice A4 r.l4.length c4,.slice A5 r.l5.length c5],.bool true,.bool false,undef,.tuple #[.slice Aq q.length cq,.int .i64 0],.agg #[.int .i64 r.a0,.slice A1 r.l1.length c1,.slice A2 r.l2.length c2,.slice A3 r.l3.length c3,.slice A4 r.l4.length c4,.slice A5 r.l5.length c5],.agg (x'.cells r.sl),.tuple #[.slice Aq q.length cq,.int .i64 0],.slice Aq q.length cq,.int .i64 0,.int .i64 0,.bool false,.int .i64 (q.length:Int),.slice Aq q.length cq,.int .i64 (q.length:Int),.bool false,u29,u30,u31,u32,u33,u34,u35,u36,u37,u38,u39,u40,u41,u42,u43,u44,u45,u46,u47,u48,u49,u50,u51,u52,u53,u54,u55,u56,u57,u58,u59,u60,u61,u62,u63,u64,u65,u66,u67,u68,u69,.int .u8 (t:Int),.int .i64 (t:Int),.agg #[.int .i64 r.a0,.slice A1 r.l1.length c1,.slice A2 r.l2.length c2,.slice A3 r.l3.length c3,.slice A4 r.l4.length c4,.slice A5 r.l5.length c5],.int .i64 F,.int .i64 (m:Int),z14_0,z14_1,z14_2,z14_3,z14_4,.agg (RL.cells (r.some cM) ⟨A1,c1,A2,c2,A3,c3,A4,c4,B5,d5⟩),z15_6,z15_0,z15_1,z15_2,z15_3,z15_4,z15_5,z15_7,z15_8,v 0,v 1,v 2,v 3,v 4,v 5,v 6,v 7,v 8,v 9,v 10,v 11,v 12,v 13,v 14,v 15,v 16,v 17,v 18,v 19,v 20,v 21,v 22,v 23,v 24],defers:= []}) (fun _=>undef) (fun j x X=>match j with
         |0=>x= .agg (r.cells ⟨A1,c1,A2,c2,A3,c3,A4,c4,A5,c5⟩)
         |1=>x= .agg (r.cells ⟨A1,c1,A2,c2,A3,c3,A4,c4,A5,c5⟩)
         |2=>x= .int .i64 F
         |3=>x= .int .i64 (bitSum q q.length)
         |4=>x= .int .i64 cL
         |5=>∃y:SA,x= .agg (RL.cells (r.some cL) y)∧RRd X y (r.some cL)
         |6=>x= .bool true
         |7=>x= .bool true
         |8=>x= .int .i64 er
         |9=>x= .bool true
         |10=>x= .bool true
         |11=>x=undef
         |12=>x=undef
         |13=>x=undef
         |14=>x=undef
         |15=>x=undef
         |16=>x=undef
         |17=>x=undef
         |18=>x=undef
         |19=>x=undef
         |20=>x= .bool true
         |21=>x= .bool true
         |22=>x= .bool true
         |23=>x= .bool true
         |24=>x= .bool true
         |_=>True) (fun X=>Below w15.drew.heap.size w15.drew X) (by kernel_rfl) rfl rfl (by kernel_rfl) rfl (Below.refl _ _) ?_ ?_ ?_
       ·intro j hj x X W' hb h
        obtain hlt|hge:=Nat.lt_or_ge j 10
        ·obtain rfl|rfl|rfl|rfl|rfl|rfl|rfl|rfl|rfl|rfl:j=0∨j=1∨j=2∨j=3∨j=4∨j=5∨j=6∨j=7∨j=8∨j=9:=by omega
         all_goals first|exact h|(obtain⟨y,e,h1⟩:=h;first|exact⟨y,e,Rd.below h1 hb⟩|exact⟨y,e,RRd.below h1 hb⟩)|(obtain⟨A,c,e,h1,h2⟩:=h;exact⟨A,c,e,h1,Kd.C_below h2 hb⟩)|(obtain⟨g,e,h1,h2⟩:=h;exact⟨g,e,blk_below h1 hb,h2⟩)|(obtain⟨A,c,e,h1⟩:=h;exact⟨A,c,e,Kd.R_below h1 hb⟩)
        obtain hlt|hge:=Nat.lt_or_ge j 20
        ·obtain rfl|rfl|rfl|rfl|rfl|rfl|rfl|rfl|rfl|rfl:j=10∨j=11∨j=12∨j=13∨j=14∨j=15∨j=16∨j=17∨j=18∨j=19:=by omega
         all_goals first|exact h|(obtain⟨y,e,h1⟩:=h;first|exact⟨y,e,Rd.below h1 hb⟩|exact⟨y,e,RRd.below h1 hb⟩)|(obtain⟨A,c,e,h1,h2⟩:=h;exact⟨A,c,e,h1,Kd.C_below h2 hb⟩)|(obtain⟨g,e,h1,h2⟩:=h;exact⟨g,e,blk_below h1 hb,h2⟩)|(obtain⟨A,c,e,h1⟩:=h;exact⟨A,c,e,Kd.R_below h1 hb⟩)
        obtain rfl|rfl|rfl|rfl|rfl:j=20∨j=21∨j=22∨j=23∨j=24:=by omega
        all_goals first|exact h|(obtain⟨y,e,h1⟩:=h;first|exact⟨y,e,Rd.below h1 hb⟩|exact⟨y,e,RRd.below h1 hb⟩)|(obtain⟨A,c,e,h1,h2⟩:=h;exact⟨A,c,e,h1,Kd.C_below h2 hb⟩)|(obtain⟨g,e,h1,h2⟩:=h;exact⟨g,e,blk_below h1 hb,h2⟩)|(obtain⟨A,c,e,h1⟩:=h;exact⟨A,c,e,Kd.R_below h1 hb⟩)
       ·intro i hi
        obtain hlt|hge:=Nat.lt_or_ge i 10
        ·obtain rfl|rfl|rfl|rfl|rfl|rfl|rfl|rfl|rfl|rfl:i=0∨i=1∨i=2∨i=3∨i=4∨i=5∨i=6∨i=7∨i=8∨i=9:=by omega
         ·intro v X hB hj K hK
          have f0:X.cell? ⟨g1,0,none⟩=some (.int .i64 r.a0):=(blk_cell (blk_below BK1.out (below_step hbd hB)) 0).trans rfl
          have f1:X.cell? ⟨g1,1,none⟩=some (.slice A1 r.l1.length c1):=(blk_cell (blk_below BK1.out (below_step hbd hB)) 1).trans rfl
          have f2:X.cell? ⟨g1,2,none⟩=some (.slice A2 r.l2.length c2):=(blk_cell (blk_below BK1.out (below_step hbd hB)) 2).trans rfl
          have f3:X.cell? ⟨g1,3,none⟩=some (.slice A3 r.l3.length c3):=(blk_cell (blk_below BK1.out (below_step hbd hB)) 3).trans rfl
          have f4:X.cell? ⟨g1,4,none⟩=some (.slice A4 r.l4.length c4):=(blk_cell (blk_below BK1.out (below_step hbd hB)) 4).trans rfl
          have f5:X.cell? ⟨g1,5,none⟩=some (.slice A5 r.l5.length c5):=(blk_cell (blk_below BK1.out (below_step hbd hB)) 5).trans rfl
          refine wpOp_step (i:=0) (by rfl) (fun K' hK'=> ?_)
          refine value_ (w1:= ?_) (v:= ?_) (by rfl) rfl ?_ ?_
          rotate_left 2
          ·go_simp
           constructor
           ·rfl
           ·rfl
          exact hK' _ _ (hK _ _ rfl hB (Below.refl _ _))
         ·intro v X hB hj K hK
          have f0:X.cell? ⟨g1,0,none⟩=some (.int .i64 r.a0):=(blk_cell (blk_below BK1.out (below_step hbd hB)) 0).trans rfl
          have f1:X.cell? ⟨g1,1,none⟩=some (.slice A1 r.l1.length c1):=(blk_cell (blk_below BK1.out (below_step hbd hB)) 1).trans rfl
          have f2:X.cell? ⟨g1,2,none⟩=some (.slice A2 r.l2.length c2):=(blk_cell (blk_below BK1.out (below_step hbd hB)) 2).trans rfl
          have f3:X.cell? ⟨g1,3,none⟩=some (.slice A3 r.l3.length c3):=(blk_cell (blk_below BK1.out (below_step hbd hB)) 3).trans rfl
          have f4:X.cell? ⟨g1,4,none⟩=some (.slice A4 r.l4.length c4):=(blk_cell (blk_below BK1.out (below_step hbd hB)) 4).trans rfl
          have f5:X.cell? ⟨g1,5,none⟩=some (.slice A5 r.l5.length c5):=(blk_cell (blk_below BK1.out (below_step hbd hB)) 5).trans rfl
          refine wpOp_step (i:=1) (by rfl) (fun K' hK'=> ?_)
          refine value_ (w1:= ?_) (v:= ?_) (by rfl) rfl ?_ ?_
          rotate_left 2
          ·go_simp
           constructor
           ·rfl
           ·rfl
          exact hK' _ _ (hK _ _ rfl hB (Below.refl _ _))
         ·intro v X hB hj K hK
          have h1:v 1= .agg (r.cells ⟨A1,c1,A2,c2,A3,c3,A4,c4,A5,c5⟩):=hj 1 (needs_mem (by kernel_rfl))
          refine wpOp_step (i:=2) (by rfl) (fun K' hK'=> ?_)
          refine goes_ Try.func52 (by kernel_rfl) rfl #[.agg (r.cells ⟨A1,c1,A2,c2,A3,c3,A4,c4,A5,c5⟩)] (by rfl) rfl rfl (by simp only [List.map_toArray,List.map_cons,List.map_nil];show #[v 1]=_;rw [h1]) ?_
          refine(Full_at ⟨A1,c1,A2,c2,A3,c3,A4,c4,A5,c5⟩ r X (RRd.below HR.out (below_step HB.out (below_step hbd hB))) n5).mono ?_
          rw [←HFU.out]
          rintro e w' ⟨rfl,hb⟩
          exact⟨_,rfl,hK' _ _ (hK _ _ rfl (below_step hB hb) hb)⟩
         ·intro v X hB hj K hK
          refine wpOp_step (i:=3) (by rfl) (fun K' hK'=> ?_)
          refine value_ (w1:= ?_) (v:= ?_) (by rfl) rfl ?_ ?_
          rotate_left 2
          ·go_simp
           constructor
           ·rfl
           ·rfl
          exact hK' _ _ (hK _ _ rfl hB (Below.refl _ _))
         ·intro v X hB hj K hK
          have h2:v 2= .int .i64 F:=hj 2 (needs_mem (by kernel_rfl))
          have h3:v 3= .int .i64 (bitSum q q.length):=hj 3 (needs_mem (by kernel_rfl))
          have e4:bits .andNot .i64 F (bitSum q q.length)=cL:=HCL.out.symm
          refine wpOp_step (i:=4) (by rfl) (fun K' hK'=> ?_)
          refine value_ (w1:= ?_) (v:= ?_) (by rfl) rfl ?_ ?_
          rotate_left 2
          ·go_simp
           constructor
           ·rfl
           ·rfl
          exact hK' _ _ (hK _ _ rfl hB (Below.refl _ _))
         ·intro v X hB hj K hK
          have h0:v 0= .agg (r.cells ⟨A1,c1,A2,c2,A3,c3,A4,c4,A5,c5⟩):=hj 0 (needs_mem (by kernel_rfl))
          have h4:v 4= .int .i64 cL:=hj 4 (needs_mem (by kernel_rfl))
          refine wpOp_step (i:=5) (by rfl) (fun K' hK'=> ?_)
          refine goes_ Try.func51 (by kernel_rfl) rfl #[.agg (r.cells ⟨A1,c1,A2,c2,A3,c3,A4,c4,A5,c5⟩),.int .i64 cL] (by rfl) rfl rfl (by simp only [List.map_toArray,List.map_cons,List.map_nil];show #[v 0,v 4]=_;rw [h0,h4]) ?_
          refine(some_calls ⟨A1,c1,A2,c2,A3,c3,A4,c4,A5,c5⟩ r cL X (RRd.below HR.out (below_step HB.out (below_step hbd hB))) n5 l0 (by omega)).mono ?_
          rintro e w' ⟨y,rfl,hr',hb⟩
          exact⟨_,rfl,hK' _ _ (hK _ _ ⟨y,rfl,hr'⟩ (below_step hB hb) hb)⟩
         ·intro v X hB hj K hK
          obtain⟨y5,h5,hr5⟩:=hj 5 (needs_mem (by kernel_rfl))
          refine wpOp_step (i:=6) (by rfl) (fun K' hK'=> ?_)
          refine goes_ Try.func50 (by kernel_rfl) rfl #[.agg (RL.cells (r.some cL) y5)] (by rfl) rfl rfl (by simp only [List.map_toArray,List.map_cons,List.map_nil];show #[v 5]=_;rw [h5]) ?_
          refine(can_calls y5 (r.some cL) X hr5 t1 t2 t3 t4 (some_le r _ t5)).mono ?_
          rw [decide_eq_true (show(RL.sl (r.some cL)).stuckErr (RL.l4 (r.some cL))=0∨(RL.sl (r.some cL)).stuckErr (RL.l4 (r.some cL))=7 from HCAN.out)]
          rintro e w' ⟨rfl,hb⟩
          exact⟨_,rfl,hK' _ _ (hK _ _ rfl (below_step hB hb) hb)⟩
         ·intro v X hB hj K hK
          have h6:v 6= .bool true:=hj 6 (needs_mem (by kernel_rfl))
          refine wpOp_step (i:=7) (by rfl) (fun K' hK'=> ?_)
          refine value_ (w1:= ?_) (v:= ?_) (by rfl) rfl ?_ ?_
          rotate_left 2
          ·go_simp
           constructor
           ·rfl
           ·rfl
          exact hK' _ _ (hK _ _ rfl hB (Below.refl _ _))
         ·intro v X hB hj K hK
          have h7:v 7= .bool true:=hj 7 (needs_mem (by kernel_rfl))
          refine wpOp_step (i:=8) (by rfl) (fun K' hK'=> ?_)
          refine value_ (w1:= ?_) (v:= ?_) (wanted_g rfl (yv (x:=v 7) h7)) rfl ?_ ?_
          rotate_left 2
          ·go_simp
           constructor
           ·rfl
           ·rfl
          exact hK' _ _ (hK _ _ rfl hB (Below.refl _ _))
         ·intro v X hB hj K hK
          have h7:v 7= .bool true:=hj 7 (needs_mem (by kernel_rfl))
          have h8:v 8= .int .i64 er:=hj 8 (needs_mem (by kernel_rfl))
          have e9:(er==11)=true:=HE.out
          refine wpOp_step (i:=9) (by rfl) (fun K' hK'=> ?_)
          refine value_ (w1:= ?_) (v:= ?_) (wanted_g rfl (yv (x:=v 7) h7)) rfl ?_ ?_
          rotate_left 2
          ·go_simp
           constructor
           ·rfl
           ·rfl
          exact hK' _ _ (hK _ _ rfl hB (Below.refl _ _))
        obtain hlt|hge:=Nat.lt_or_ge i 20
        ·obtain rfl|rfl|rfl|rfl|rfl|rfl|rfl|rfl|rfl|rfl:i=10∨i=11∨i=12∨i=13∨i=14∨i=15∨i=16∨i=17∨i=18∨i=19:=by omega
         ·intro v X hB hj K hK
          have h7:v 7= .bool true:=hj 7 (needs_mem (by kernel_rfl))
          have h9:v 9= .bool true:=hj 9 (needs_mem (by kernel_rfl))
          refine wpOp_step (i:=10) (by rfl) (fun K' hK'=> ?_)
          refine value_ (w1:= ?_) (v:= ?_) (wanted_g rfl (yv (x:=v 7) h7)) rfl ?_ ?_
          rotate_left 2
          ·go_simp
           constructor
           ·rfl
           ·rfl
          exact hK' _ _ (hK _ _ rfl hB (Below.refl _ _))
         ·intro v X hB hj K hK
          have h10:v 10= .bool true:=hj 10 (needs_mem (by kernel_rfl))
          refine wpOp_step (i:=11) (by rfl) (fun K' hK'=> ?_)
          refine off_ (unwanted_g rfl (yv (x:=v 10) h10) (by decide)) ?_
          exact hK' _ _ (hK _ _ rfl hB (Below.refl _ _))
         ·intro v X hB hj K hK
          have h10:v 10= .bool true:=hj 10 (needs_mem (by kernel_rfl))
          refine wpOp_step (i:=12) (by rfl) (fun K' hK'=> ?_)
          refine off_ (unwanted_g rfl (yv (x:=v 10) h10) (by decide)) ?_
          exact hK' _ _ (hK _ _ rfl hB (Below.refl _ _))
         ·intro v X hB hj K hK
          have h10:v 10= .bool true:=hj 10 (needs_mem (by kernel_rfl))
          refine wpOp_step (i:=13) (by rfl) (fun K' hK'=> ?_)
          refine off_ (unwanted_g rfl (yv (x:=v 10) h10) (by decide)) ?_
          exact hK' _ _ (hK _ _ rfl hB (Below.refl _ _))
         ·intro v X hB hj K hK
          have h13:v 13=undef:=hj 13 (needs_mem (by kernel_rfl))
          refine wpOp_step (i:=14) (by rfl) (fun K' hK'=> ?_)
          refine off_ (unwanted_u rfl (yu (x:=v 13) h13)) ?_
          exact hK' _ _ (hK _ _ rfl hB (Below.refl _ _))
         ·intro v X hB hj K hK
          have h13:v 13=undef:=hj 13 (needs_mem (by kernel_rfl))
          refine wpOp_step (i:=15) (by rfl) (fun K' hK'=> ?_)
          refine off_ (unwanted_u rfl (yu (x:=v 13) h13)) ?_
          exact hK' _ _ (hK _ _ rfl hB (Below.refl _ _))
         ·intro v X hB hj K hK
          have h13:v 13=undef:=hj 13 (needs_mem (by kernel_rfl))
          refine wpOp_step (i:=16) (by rfl) (fun K' hK'=> ?_)
          refine off_ (unwanted_u rfl (yu (x:=v 13) h13)) ?_
          exact hK' _ _ (hK _ _ rfl hB (Below.refl _ _))
         ·intro v X hB hj K hK
          have h13:v 13=undef:=hj 13 (needs_mem (by kernel_rfl))
          refine wpOp_step (i:=17) (by rfl) (fun K' hK'=> ?_)
          refine off_ (unwanted_u rfl (yu (x:=v 13) h13)) ?_
          exact hK' _ _ (hK _ _ rfl hB (Below.refl _ _))
         ·intro v X hB hj K hK
          have h13:v 13=undef:=hj 13 (needs_mem (by kernel_rfl))
          refine wpOp_step (i:=18) (by rfl) (fun K' hK'=> ?_)
          refine off_ (unwanted_u rfl (yu (x:=v 13) h13)) ?_
          exact hK' _ _ (hK _ _ rfl hB (Below.refl _ _))
         ·intro v X hB hj K hK
          have h10:v 10= .bool true:=hj 10 (needs_mem (by kernel_rfl))
          refine wpOp_step (i:=19) (by rfl) (fun K' hK'=> ?_)
          refine off_ (unwanted_g rfl (yv (x:=v 10) h10) (by decide)) ?_
          exact hK' _ _ (hK _ _ rfl hB (Below.refl _ _))
        obtain rfl|rfl|rfl|rfl|rfl:i=20∨i=21∨i=22∨i=23∨i=24:=by omega
        ·intro v X hB hj K hK
         have h7:v 7= .bool true:=hj 7 (needs_mem (by kernel_rfl))
         have h10:v 10= .bool true:=hj 10 (needs_mem (by kernel_rfl))
         refine wpOp_step (i:=20) (by rfl) (fun K' hK'=> ?_)
         refine value_ (w1:= ?_) (v:= ?_) (wanted_g rfl (yv (x:=v 7) h7)) rfl ?_ ?_
         rotate_left 2
         ·go_simp
          constructor
          ·rfl
          ·rfl
         exact hK' _ _ (hK _ _ rfl hB (Below.refl _ _))
        ·intro v X hB hj K hK
         have h7:v 7= .bool true:=hj 7 (needs_mem (by kernel_rfl))
         have h20:v 20= .bool true:=hj 20 (needs_mem (by kernel_rfl))
         refine wpOp_step (i:=21) (by rfl) (fun K' hK'=> ?_)
         refine value_ (w1:= ?_) (v:= ?_) (by rfl) rfl ?_ ?_
         rotate_left 2
         ·go_simp
          constructor
          ·rfl
          ·rfl
         exact hK' _ _ (hK _ _ rfl hB (Below.refl _ _))
        ·intro v X hB hj K hK
         have h21:v 21= .bool true:=hj 21 (needs_mem (by kernel_rfl))
         refine wpOp_step (i:=22) (by rfl) (fun K' hK'=> ?_)
         refine value_ (w1:= ?_) (v:= ?_) (by rfl) rfl ?_ ?_
         rotate_left 2
         ·go_simp
          constructor
          ·rfl
          ·rfl
         exact hK' _ _ (hK _ _ rfl hB (Below.refl _ _))
        ·intro v X hB hj K hK
         have h22:v 22= .bool true:=hj 22 (needs_mem (by kernel_rfl))
         refine wpOp_step (i:=23) (by rfl) (fun K' hK'=> ?_)
         refine goes_ Try.func20 (by kernel_rfl) rfl #[] (wanted_g rfl (yv (x:=v 22) h22)) rfl rfl (by simp) ?_
         refine(awake_calls X).mono ?_
         rintro e w' ⟨rfl,hb⟩
         exact⟨_,rfl,hK' _ _ (hK _ _ rfl (below_step hB hb) hb)⟩
        ·intro v X hB hj K hK
         have h22:v 22= .bool true:=hj 22 (needs_mem (by kernel_rfl))
         have h23:v 23= .bool true:=hj 23 (needs_mem (by kernel_rfl))
         refine wpOp_step (i:=24) (by rfl) (fun K' hK'=> ?_)
         refine value_ (w1:= ?_) (v:= ?_) (by rfl) rfl ?_ ?_
         rotate_left 2
         ·go_simp
          constructor
          ·rfl
          ·rfl
         exact hK' _ _ (hK _ _ rfl hB (Below.refl _ _))
       ·intro v X hB hj K hK
        have h24:v 24= .bool true:=hj 24 (needs_mem (by kernel_rfl))
        refine wpOp_step (i:=25) (by rfl) (fun K' hK'=> ?_)
        refine value_ (w1:= ?_) (v:= ?_) (by rfl) rfl ?_ ?_
        rotate_left 2
        ·go_simp
         constructor
         ·rfl
         ·rfl
        refine hK' _ _ (hK _ _ ?_)
        have HBW:=Aside0.mk (below_step HB.out (below_step hbd hB))
        show Exit.then _ _ .normal {tmps:=#[.agg (r.cells (⟨A1,c1,A2,c2,A3,c3,A4,c4,A5,c5⟩:SA)),.int .u8 (t:Int),.pointer (some ⟨g1,0,none⟩),undef,.bool true,.slice Aq q.length cq,.int .i64 0,.int .i64 (bitSum q q.length),.int .i64 (q.length:Int),.int .i64 (m:Int),.pointer (some ⟨g6,0,none⟩),.int .i64 st,.int .i64 er,.agg #[.int .i64 r.a0,.slice A1 r.l1.length c1,.slice A2 r.l2.length c2,.slice A3 r.l3.length c3,.slice A4 r.l4.length c4,.slice A5 r.l5.length c5],.bool true,.bool false,undef,.tuple #[.slice Aq q.length cq,.int .i64 0],.agg #[.int .i64 r.a0,.slice A1 r.l1.length c1,.slice A2 r.l2.length c2,.slice A3 r.l3.length c3,.slice A4 r.l4.length c4,.slice A5 r.l5.length c5],.agg (x'.cells r.sl),.tuple #[.slice Aq q.length cq,.int .i64 0],.slice Aq q.length cq,.int .i64 0,.int .i64 0,.bool false,.int .i64 (q.length:Int),.slice Aq q.length cq,.int .i64 (q.length:Int),.bool false,u29,u30,u31,u32,u33,u34,u35,u36,u37,u38,u39,u40,u41,u42,u43,u44,u45,u46,u47,u48,u49,u50,u51,u52,u53,u54,u55,u56,u57,u58,u59,u60,u61,u62,u63,u64,u65,u66,u67,u68,u69,.int .u8 (t:Int),.int .i64 (t:Int),.agg #[.int .i64 r.a0,.slice A1 r.l1.length c1,.slice A2 r.l2.length c2,.slice A3 r.l3.length c3,.slice A4 r.l4.length c4,.slice A5 r.l5.length c5],.int .i64 F,.int .i64 (m:Int),z14_0,z14_1,z14_2,z14_3,z14_4,.agg (RL.cells (r.some cM) ⟨A1,c1,A2,c2,A3,c3,A4,c4,B5,d5⟩),z15_6,z15_0,z15_1,z15_2,z15_3,z15_4,z15_5,z15_7,z15_8,v 0,v 1,v 2,v 3,v 4,v 5,v 6,v 7,v 8,v 9,v 10,v 11,v 12,v 13,v 14,v 15,v 16,v 17,v 18,v 19,v 20,v 21,v 22,v 23,v 24],defers:= []} (X)
        generalize v 0=z16_0
        generalize v 1=z16_1
        generalize v 2=z16_2
        generalize v 3=z16_3
        generalize v 4=z16_4
        generalize v 5=z16_5
        generalize v 6=z16_6
        generalize v 7=z16_7
        generalize v 8=z16_8
        generalize v 9=z16_9
        generalize v 10=z16_10
        generalize v 11=z16_11
        generalize v 12=z16_12
        generalize v 13=z16_13
        generalize v 14=z16_14
        generalize v 15=z16_15
        generalize v 16=z16_16
        generalize v 17=z16_17
        generalize v 18=z16_18
        generalize v 19=z16_19
        generalize v 20=z16_20
        generalize v 21=z16_21
        generalize v 22=z16_22
        generalize v 23=z16_23
        generalize v 24=z16_24
        clear hj hK hK' hB hbd
        go_wp2
        go_ret
        exact⟨rfl,HBW.out⟩
      |true=>
       have HCAM:=Aside0.mk (show(r.some cM).sl.stuckErr r.l4=0∨(r.some cM).sl.stuckErr r.l4=7 from can_of (some_fault HF.out cM) hp)
       have HE:=Aside0.mk (show(er==11)=false by rw [beq_eq_false_iff_ne,HER.out];rcases HCAM.out with h|h<;>rw [h]<;>decide)
       have HSH:=Aside0.mk (HLAW.out.2.2 m HM2.out (by rw [←possible_some (r:=r) (c:=cM) (q:=bitsOf m) (fun k hk=>HLM.out k (by rw [HN.out];exact hk))];exact hp))
       clear hp
       go_upto_region 16 with(fail)
       have hbd:=below_drew1 (Below.refl w15.heap.size w15)
       refine wp_open 25 _ (fun v=> {tmps:=#[.agg (r.cells (⟨A1,c1,A2,c2,A3,c3,A4,c4,A5,c5⟩:SA)),.int .u8 (t:Int),.pointer (some ⟨g1,0,none⟩),undef,u4,.slice Aq q.length cq,.int .i64 0,.int .i64 (bitSum q q.length),.int .i64 (q.length:Int),.int .i64 (m:Int),.pointer (some ⟨g6,0,none⟩),.int .i64 st,.int .i64 er,.agg #[.int .i64 r.a0,.slice A1 r.l1.length c1,.slice A2 r.l2.length c2,.slice A3 r.l3.length c3,.slice A4 r.l4.length c4,.slice A5 r.l5.length c5],.bool true,.bool false,undef,.tuple #[.slice Aq q.length cq,.int .i64 0],.agg #[.int .i64 r.a0,.slice A1 r.l1.length c1,.slice A2 r.l2.length c2,.slice A3 r.l3.length c3,.slice A4 r.l4.length c4,.slice A5 r.l5.length c5],.agg (x'.cells r.sl),.tuple #[.slice Aq q.length cq,.int .i64 0],.slice Aq q.length cq,.int .i64 0,.int .i64 0,.bool false,.int .i64 (q.length:Int),.slice Aq q.length cq,.int .i64 (q.length:Int),.bool false,u29,u30,u31,u32,u33,u34,u35,u36,u37,u38,u39,u40,u41,u42,u43,u44,u45,u46,u47,u48,u49,u50,u51,u52,u53,u54,u55,u56,u57,u58,u59,u60,u61,u62,u63,u64,u65,u66,u67,u68,u69,.int .u8 (t:Int),.int .i64 (t:Int),.agg #[.int .i64 r.a0,.slice A1 r.l1.length c1,.slice A2 r.l2.length c2,.slice A3 r.l3.length c3,.slice A4 r.l4.length c4,.slice A5 r.l5.length c5],.int .i64 F,.int .i64 (m:Int),z14_0,z14_1,z14_2,z14_3,z14_4,.agg (RL.cells (r.some cM) ⟨A1,c1,A2,c2,A3,c3,A4,c4,B5,d5⟩),z15_6,z15_0,z15_1,z15_2,z15_3,z15_4,z15_5,z15_7,z15_8,v 0,v 1,v 2,v 3,v 4,v 5,v 6,v 7,v 8,v 9,v 10,v 11,v 12,v 13,v 14,v 15,v 16,v 17,v 18,v 19,v 20,v 21,v 22,v 23,v 24],defers:= []}) (fun _=>undef) (fun j x X=>match j with
         |0=>x= .agg (r.cells ⟨A1,c1,A2,c2,A3,c3,A4,c4,A5,c5⟩)
         |1=>x= .agg (r.cells ⟨A1,c1,A2,c2,A3,c3,A4,c4,A5,c5⟩)
         |2=>x= .int .i64 F
         |3=>x= .int .i64 (bitSum q q.length)
         |4=>x= .int .i64 cL
         |5=>∃y:SA,x= .agg (RL.cells (r.some cL) y)∧RRd X y (r.some cL)
         |6=>x= .bool true
         |7=>x= .bool true
         |8=>x= .int .i64 er
         |9=>x= .bool false
         |10=>x= .bool false
         |11=>x= .agg (RL.cells (r.some cM) ⟨A1,c1,A2,c2,A3,c3,A4,c4,B5,d5⟩)
         |12=>x= .bool true
         |13=>x= .bool true
         |14=>x= .int .i64 (m:Int)
         |15=>∃A c,x= .slice A (bitsOf m).length c∧(bitsOf m).length≤c∧Kd.C (Kd.int .i64) X A (bitsOf m).length (bitsOf m)
         |16=>x= .slice Aq q.length cq
         |17=>x= .bool false
         |18=>x= .bool true
         |19=>x= .bool true
         |20=>x= .bool true
         |21=>x= .bool true
         |22=>x= .bool true
         |23=>x= .bool true
         |24=>x= .bool true
         |_=>True) (fun X=>Below w15.drew.heap.size w15.drew X) (by kernel_rfl) rfl rfl (by kernel_rfl) rfl (Below.refl _ _) ?_ ?_ ?_
       ·intro j hj x X W' hb h
        obtain hlt|hge:=Nat.lt_or_ge j 10
        ·obtain rfl|rfl|rfl|rfl|rfl|rfl|rfl|rfl|rfl|rfl:j=0∨j=1∨j=2∨j=3∨j=4∨j=5∨j=6∨j=7∨j=8∨j=9:=by omega
         all_goals first|exact h|(obtain⟨y,e,h1⟩:=h;first|exact⟨y,e,Rd.below h1 hb⟩|exact⟨y,e,RRd.below h1 hb⟩)|(obtain⟨A,c,e,h1,h2⟩:=h;exact⟨A,c,e,h1,Kd.C_below h2 hb⟩)|(obtain⟨g,e,h1,h2⟩:=h;exact⟨g,e,blk_below h1 hb,h2⟩)|(obtain⟨A,c,e,h1⟩:=h;exact⟨A,c,e,Kd.R_below h1 hb⟩)
        obtain hlt|hge:=Nat.lt_or_ge j 20
        ·obtain rfl|rfl|rfl|rfl|rfl|rfl|rfl|rfl|rfl|rfl:j=10∨j=11∨j=12∨j=13∨j=14∨j=15∨j=16∨j=17∨j=18∨j=19:=by omega
         all_goals first|exact h|(obtain⟨y,e,h1⟩:=h;first|exact⟨y,e,Rd.below h1 hb⟩|exact⟨y,e,RRd.below h1 hb⟩)|(obtain⟨A,c,e,h1,h2⟩:=h;exact⟨A,c,e,h1,Kd.C_below h2 hb⟩)|(obtain⟨g,e,h1,h2⟩:=h;exact⟨g,e,blk_below h1 hb,h2⟩)|(obtain⟨A,c,e,h1⟩:=h;exact⟨A,c,e,Kd.R_below h1 hb⟩)
        obtain rfl|rfl|rfl|rfl|rfl:j=20∨j=21∨j=22∨j=23∨j=24:=by omega
        all_goals first|exact h|(obtain⟨y,e,h1⟩:=h;first|exact⟨y,e,Rd.below h1 hb⟩|exact⟨y,e,RRd.below h1 hb⟩)|(obtain⟨A,c,e,h1,h2⟩:=h;exact⟨A,c,e,h1,Kd.C_below h2 hb⟩)|(obtain⟨g,e,h1,h2⟩:=h;exact⟨g,e,blk_below h1 hb,h2⟩)|(obtain⟨A,c,e,h1⟩:=h;exact⟨A,c,e,Kd.R_below h1 hb⟩)
       ·intro i hi
        obtain hlt|hge:=Nat.lt_or_ge i 10
        ·obtain rfl|rfl|rfl|rfl|rfl|rfl|rfl|rfl|rfl|rfl:i=0∨i=1∨i=2∨i=3∨i=4∨i=5∨i=6∨i=7∨i=8∨i=9:=by omega
         ·intro v X hB hj K hK
          have f0:X.cell? ⟨g1,0,none⟩=some (.int .i64 r.a0):=(blk_cell (blk_below BK1.out (below_step hbd hB)) 0).trans rfl
          have f1:X.cell? ⟨g1,1,none⟩=some (.slice A1 r.l1.length c1):=(blk_cell (blk_below BK1.out (below_step hbd hB)) 1).trans rfl
          have f2:X.cell? ⟨g1,2,none⟩=some (.slice A2 r.l2.length c2):=(blk_cell (blk_below BK1.out (below_step hbd hB)) 2).trans rfl
          have f3:X.cell? ⟨g1,3,none⟩=some (.slice A3 r.l3.length c3):=(blk_cell (blk_below BK1.out (below_step hbd hB)) 3).trans rfl
          have f4:X.cell? ⟨g1,4,none⟩=some (.slice A4 r.l4.length c4):=(blk_cell (blk_below BK1.out (below_step hbd hB)) 4).trans rfl
          have f5:X.cell? ⟨g1,5,none⟩=some (.slice A5 r.l5.length c5):=(blk_cell (blk_below BK1.out (below_step hbd hB)) 5).trans rfl
          refine wpOp_step (i:=0) (by rfl) (fun K' hK'=> ?_)
          refine value_ (w1:= ?_) (v:= ?_) (by rfl) rfl ?_ ?_
          rotate_left 2
          ·go_simp
           constructor
           ·rfl
           ·rfl
          exact hK' _ _ (hK _ _ rfl hB (Below.refl _ _))
         ·intro v X hB hj K hK
          have f0:X.cell? ⟨g1,0,none⟩=some (.int .i64 r.a0):=(blk_cell (blk_below BK1.out (below_step hbd hB)) 0).trans rfl
          have f1:X.cell? ⟨g1,1,none⟩=some (.slice A1 r.l1.length c1):=(blk_cell (blk_below BK1.out (below_step hbd hB)) 1).trans rfl
          have f2:X.cell? ⟨g1,2,none⟩=some (.slice A2 r.l2.length c2):=(blk_cell (blk_below BK1.out (below_step hbd hB)) 2).trans rfl
          have f3:X.cell? ⟨g1,3,none⟩=some (.slice A3 r.l3.length c3):=(blk_cell (blk_below BK1.out (below_step hbd hB)) 3).trans rfl
          have f4:X.cell? ⟨g1,4,none⟩=some (.slice A4 r.l4.length c4):=(blk_cell (blk_below BK1.out (below_step hbd hB)) 4).trans rfl
          have f5:X.cell? ⟨g1,5,none⟩=some (.slice A5 r.l5.length c5):=(blk_cell (blk_below BK1.out (below_step hbd hB)) 5).trans rfl
          refine wpOp_step (i:=1) (by rfl) (fun K' hK'=> ?_)
          refine value_ (w1:= ?_) (v:= ?_) (by rfl) rfl ?_ ?_
          rotate_left 2
          ·go_simp
           constructor
           ·rfl
           ·rfl
          exact hK' _ _ (hK _ _ rfl hB (Below.refl _ _))
         ·intro v X hB hj K hK
          have h1:v 1= .agg (r.cells ⟨A1,c1,A2,c2,A3,c3,A4,c4,A5,c5⟩):=hj 1 (needs_mem (by kernel_rfl))
          refine wpOp_step (i:=2) (by rfl) (fun K' hK'=> ?_)
          refine goes_ Try.func52 (by kernel_rfl) rfl #[.agg (r.cells ⟨A1,c1,A2,c2,A3,c3,A4,c4,A5,c5⟩)] (by rfl) rfl rfl (by simp only [List.map_toArray,List.map_cons,List.map_nil];show #[v 1]=_;rw [h1]) ?_
          refine(Full_at ⟨A1,c1,A2,c2,A3,c3,A4,c4,A5,c5⟩ r X (RRd.below HR.out (below_step HB.out (below_step hbd hB))) n5).mono ?_
          rw [←HFU.out]
          rintro e w' ⟨rfl,hb⟩
          exact⟨_,rfl,hK' _ _ (hK _ _ rfl (below_step hB hb) hb)⟩
         ·intro v X hB hj K hK
          refine wpOp_step (i:=3) (by rfl) (fun K' hK'=> ?_)
          refine value_ (w1:= ?_) (v:= ?_) (by rfl) rfl ?_ ?_
          rotate_left 2
          ·go_simp
           constructor
           ·rfl
           ·rfl
          exact hK' _ _ (hK _ _ rfl hB (Below.refl _ _))
         ·intro v X hB hj K hK
          have h2:v 2= .int .i64 F:=hj 2 (needs_mem (by kernel_rfl))
          have h3:v 3= .int .i64 (bitSum q q.length):=hj 3 (needs_mem (by kernel_rfl))
          have e4:bits .andNot .i64 F (bitSum q q.length)=cL:=HCL.out.symm
          refine wpOp_step (i:=4) (by rfl) (fun K' hK'=> ?_)
          refine value_ (w1:= ?_) (v:= ?_) (by rfl) rfl ?_ ?_
          rotate_left 2
          ·go_simp
           constructor
           ·rfl
           ·rfl
          exact hK' _ _ (hK _ _ rfl hB (Below.refl _ _))
         ·intro v X hB hj K hK
          have h0:v 0= .agg (r.cells ⟨A1,c1,A2,c2,A3,c3,A4,c4,A5,c5⟩):=hj 0 (needs_mem (by kernel_rfl))
          have h4:v 4= .int .i64 cL:=hj 4 (needs_mem (by kernel_rfl))
          refine wpOp_step (i:=5) (by rfl) (fun K' hK'=> ?_)
          refine goes_ Try.func51 (by kernel_rfl) rfl #[.agg (r.cells ⟨A1,c1,A2,c2,A3,c3,A4,c4,A5,c5⟩),.int .i64 cL] (by rfl) rfl rfl (by simp only [List.map_toArray,List.map_cons,List.map_nil];show #[v 0,v 4]=_;rw [h0,h4]) ?_
          refine(some_calls ⟨A1,c1,A2,c2,A3,c3,A4,c4,A5,c5⟩ r cL X (RRd.below HR.out (below_step HB.out (below_step hbd hB))) n5 l0 (by omega)).mono ?_
          rintro e w' ⟨y,rfl,hr',hb⟩
          exact⟨_,rfl,hK' _ _ (hK _ _ ⟨y,rfl,hr'⟩ (below_step hB hb) hb)⟩
         ·intro v X hB hj K hK
          obtain⟨y5,h5,hr5⟩:=hj 5 (needs_mem (by kernel_rfl))
          refine wpOp_step (i:=6) (by rfl) (fun K' hK'=> ?_)
          refine goes_ Try.func50 (by kernel_rfl) rfl #[.agg (RL.cells (r.some cL) y5)] (by rfl) rfl rfl (by simp only [List.map_toArray,List.map_cons,List.map_nil];show #[v 5]=_;rw [h5]) ?_
          refine(can_calls y5 (r.some cL) X hr5 t1 t2 t3 t4 (some_le r _ t5)).mono ?_
          rw [decide_eq_true (show(RL.sl (r.some cL)).stuckErr (RL.l4 (r.some cL))=0∨(RL.sl (r.some cL)).stuckErr (RL.l4 (r.some cL))=7 from HCAN.out)]
          rintro e w' ⟨rfl,hb⟩
          exact⟨_,rfl,hK' _ _ (hK _ _ rfl (below_step hB hb) hb)⟩
         ·intro v X hB hj K hK
          have h6:v 6= .bool true:=hj 6 (needs_mem (by kernel_rfl))
          refine wpOp_step (i:=7) (by rfl) (fun K' hK'=> ?_)
          refine value_ (w1:= ?_) (v:= ?_) (by rfl) rfl ?_ ?_
          rotate_left 2
          ·go_simp
           constructor
           ·rfl
           ·rfl
          exact hK' _ _ (hK _ _ rfl hB (Below.refl _ _))
         ·intro v X hB hj K hK
          have h7:v 7= .bool true:=hj 7 (needs_mem (by kernel_rfl))
          refine wpOp_step (i:=8) (by rfl) (fun K' hK'=> ?_)
          refine value_ (w1:= ?_) (v:= ?_) (wanted_g rfl (yv (x:=v 7) h7)) rfl ?_ ?_
          rotate_left 2
          ·go_simp
           constructor
           ·rfl
           ·rfl
          exact hK' _ _ (hK _ _ rfl hB (Below.refl _ _))
         ·intro v X hB hj K hK
          have h7:v 7= .bool true:=hj 7 (needs_mem (by kernel_rfl))
          have h8:v 8= .int .i64 er:=hj 8 (needs_mem (by kernel_rfl))
          have e9:(er==11)=false:=HE.out
          refine wpOp_step (i:=9) (by rfl) (fun K' hK'=> ?_)
          refine value_ (w1:= ?_) (v:= ?_) (wanted_g rfl (yv (x:=v 7) h7)) rfl ?_ ?_
          rotate_left 2
          ·go_simp
           constructor
           ·rfl
           ·rfl
          exact hK' _ _ (hK _ _ rfl hB (Below.refl _ _))
        obtain hlt|hge:=Nat.lt_or_ge i 20
        ·obtain rfl|rfl|rfl|rfl|rfl|rfl|rfl|rfl|rfl|rfl:i=10∨i=11∨i=12∨i=13∨i=14∨i=15∨i=16∨i=17∨i=18∨i=19:=by omega
         ·intro v X hB hj K hK
          have h7:v 7= .bool true:=hj 7 (needs_mem (by kernel_rfl))
          have h9:v 9= .bool false:=hj 9 (needs_mem (by kernel_rfl))
          refine wpOp_step (i:=10) (by rfl) (fun K' hK'=> ?_)
          refine value_ (w1:= ?_) (v:= ?_) (wanted_g rfl (yv (x:=v 7) h7)) rfl ?_ ?_
          rotate_left 2
          ·go_simp
           constructor
           ·rfl
           ·rfl
          exact hK' _ _ (hK _ _ rfl hB (Below.refl _ _))
         ·intro v X hB hj K hK
          have h10:v 10= .bool false:=hj 10 (needs_mem (by kernel_rfl))
          have f0:X.cell? ⟨g6,0,none⟩=some (.int .i64 r.a0):=(blk_cell (blk_below BK2.out (below_step hbd hB)) 0).trans rfl
          have f1:X.cell? ⟨g6,1,none⟩=some (.slice A1 r.l1.length c1):=(blk_cell (blk_below BK2.out (below_step hbd hB)) 1).trans rfl
          have f2:X.cell? ⟨g6,2,none⟩=some (.slice A2 r.l2.length c2):=(blk_cell (blk_below BK2.out (below_step hbd hB)) 2).trans rfl
          have f3:X.cell? ⟨g6,3,none⟩=some (.slice A3 r.l3.length c3):=(blk_cell (blk_below BK2.out (below_step hbd hB)) 3).trans rfl
          have f4:X.cell? ⟨g6,4,none⟩=some (.slice A4 r.l4.length c4):=(blk_cell (blk_below BK2.out (below_step hbd hB)) 4).trans rfl
          have f5:X.cell? ⟨g6,5,none⟩=some (.slice B5 (r.some cM).l5.length d5):=(blk_cell (blk_below BK2.out (below_step hbd hB)) 5).trans rfl
          refine wpOp_step (i:=11) (by rfl) (fun K' hK'=> ?_)
          refine value_ (w1:= ?_) (v:= ?_) (wanted_g rfl (yv (x:=v 10) h10)) rfl ?_ ?_
          rotate_left 2
          ·go_simp
           constructor
           ·rfl
           ·rfl
          exact hK' _ _ (hK _ _ rfl hB (Below.refl _ _))
         ·intro v X hB hj K hK
          have h10:v 10= .bool false:=hj 10 (needs_mem (by kernel_rfl))
          have h11:v 11= .agg (RL.cells (r.some cM) ⟨A1,c1,A2,c2,A3,c3,A4,c4,B5,d5⟩):=hj 11 (needs_mem (by kernel_rfl))
          refine wpOp_step (i:=12) (by rfl) (fun K' hK'=> ?_)
          refine goes_ Try.func50 (by kernel_rfl) rfl #[.agg (RL.cells (r.some cM) ⟨A1,c1,A2,c2,A3,c3,A4,c4,B5,d5⟩)] (wanted_g rfl (yv (x:=v 10) h10)) rfl rfl (by simp only [List.map_toArray,List.map_cons,List.map_nil];show #[v 11]=_;rw [h11]) ?_
          refine(can_calls ⟨A1,c1,A2,c2,A3,c3,A4,c4,B5,d5⟩ (r.some cM) X (HR2.out.below (below_step hbd hB)) t1 t2 t3 t4 (some_le r _ t5)).mono ?_
          rw [decide_eq_true (show(RL.sl (r.some cM)).stuckErr (RL.l4 (r.some cM))=0∨(RL.sl (r.some cM)).stuckErr (RL.l4 (r.some cM))=7 from HCAM.out)]
          rintro e w' ⟨rfl,hb⟩
          exact⟨_,rfl,hK' _ _ (hK _ _ rfl (below_step hB hb) hb)⟩
         ·intro v X hB hj K hK
          have h10:v 10= .bool false:=hj 10 (needs_mem (by kernel_rfl))
          have h12:v 12= .bool true:=hj 12 (needs_mem (by kernel_rfl))
          refine wpOp_step (i:=13) (by rfl) (fun K' hK'=> ?_)
          refine value_ (w1:= ?_) (v:= ?_) (wanted_g rfl (yv (x:=v 10) h10)) rfl ?_ ?_
          rotate_left 2
          ·go_simp
           constructor
           ·rfl
           ·rfl
          exact hK' _ _ (hK _ _ rfl hB (Below.refl _ _))
         ·intro v X hB hj K hK
          have h13:v 13= .bool true:=hj 13 (needs_mem (by kernel_rfl))
          refine wpOp_step (i:=14) (by rfl) (fun K' hK'=> ?_)
          refine value_ (w1:= ?_) (v:= ?_) (wanted_g rfl (yv (x:=v 13) h13)) rfl ?_ ?_
          rotate_left 2
          ·go_simp
           constructor
           ·rfl
           ·rfl
          exact hK' _ _ (hK _ _ rfl hB (Below.refl _ _))
         ·intro v X hB hj K hK
          have h13:v 13= .bool true:=hj 13 (needs_mem (by kernel_rfl))
          have h14:v 14= .int .i64 (m:Int):=hj 14 (needs_mem (by kernel_rfl))
          refine wpOp_step (i:=15) (by rfl) (fun K' hK'=> ?_)
          refine goes_ Try.func54 (by kernel_rfl) rfl #[.int .i64 (m:Int)] (wanted_g rfl (yv (x:=v 13) h13)) rfl rfl (by simp only [List.map_toArray,List.map_cons,List.map_nil];show #[v 14]=_;rw [h14]) ?_
          refine(Bits_at m hm32 X).mono ?_
          rintro e w' ⟨B,d,rfl,hl,hC,hb⟩
          exact⟨_,rfl,hK' _ _ (hK _ _ ⟨B,d,rfl,hl,hC⟩ (below_step hB hb) hb)⟩
         ·intro v X hB hj K hK
          have h13:v 13= .bool true:=hj 13 (needs_mem (by kernel_rfl))
          refine wpOp_step (i:=16) (by rfl) (fun K' hK'=> ?_)
          refine value_ (w1:= ?_) (v:= ?_) (wanted_g rfl (yv (x:=v 13) h13)) rfl ?_ ?_
          rotate_left 2
          ·go_simp
           constructor
           ·rfl
           ·rfl
          exact hK' _ _ (hK _ _ rfl hB (Below.refl _ _))
         ·intro v X hB hj K hK
          have h13:v 13= .bool true:=hj 13 (needs_mem (by kernel_rfl))
          obtain⟨B15,d15,h15,hl15,hk15⟩:=hj 15 (needs_mem (by kernel_rfl))
          have h16:v 16= .slice Aq q.length cq:=hj 16 (needs_mem (by kernel_rfl))
          refine wpOp_step (i:=17) (by rfl) (fun K' hK'=> ?_)
          refine goes_ Try.func53 (by kernel_rfl) rfl #[.slice B15 (bitsOf m).length d15,.slice Aq q.length cq] (wanted_g rfl (yv (x:=v 13) h13)) rfl rfl (by simp only [List.map_toArray,List.map_cons,List.map_nil];show #[v 15,v 16]=_;rw [h15,h16]) ?_
          refine(Shorter_at B15 d15 (bitsOf m) Aq cq q X hk15 hl15 (Kd.C_below HCQ.out (below_step hbd hB)) hcq (bits_le m) (by omega)).mono ?_
          rw [HSH.out]
          rintro e w' ⟨rfl,hb⟩
          exact⟨_,rfl,hK' _ _ (hK _ _ rfl (below_step hB hb) hb)⟩
         ·intro v X hB hj K hK
          have h13:v 13= .bool true:=hj 13 (needs_mem (by kernel_rfl))
          have h17:v 17= .bool false:=hj 17 (needs_mem (by kernel_rfl))
          refine wpOp_step (i:=18) (by rfl) (fun K' hK'=> ?_)
          refine value_ (w1:= ?_) (v:= ?_) (wanted_g rfl (yv (x:=v 13) h13)) rfl ?_ ?_
          rotate_left 2
          ·go_simp
           constructor
           ·rfl
           ·rfl
          exact hK' _ _ (hK _ _ rfl hB (Below.refl _ _))
         ·intro v X hB hj K hK
          have h10:v 10= .bool false:=hj 10 (needs_mem (by kernel_rfl))
          have h13:v 13= .bool true:=hj 13 (needs_mem (by kernel_rfl))
          have h18:v 18= .bool true:=hj 18 (needs_mem (by kernel_rfl))
          refine wpOp_step (i:=19) (by rfl) (fun K' hK'=> ?_)
          refine value_ (w1:= ?_) (v:= ?_) (wanted_g rfl (yv (x:=v 10) h10)) rfl ?_ ?_
          rotate_left 2
          ·go_simp
           constructor
           ·rfl
           ·rfl
          exact hK' _ _ (hK _ _ rfl hB (Below.refl _ _))
        obtain rfl|rfl|rfl|rfl|rfl:i=20∨i=21∨i=22∨i=23∨i=24:=by omega
        ·intro v X hB hj K hK
         have h7:v 7= .bool true:=hj 7 (needs_mem (by kernel_rfl))
         have h10:v 10= .bool false:=hj 10 (needs_mem (by kernel_rfl))
         have h19:v 19= .bool true:=hj 19 (needs_mem (by kernel_rfl))
         refine wpOp_step (i:=20) (by rfl) (fun K' hK'=> ?_)
         refine value_ (w1:= ?_) (v:= ?_) (wanted_g rfl (yv (x:=v 7) h7)) rfl ?_ ?_
         rotate_left 2
         ·go_simp
          constructor
          ·rfl
          ·rfl
         exact hK' _ _ (hK _ _ rfl hB (Below.refl _ _))
        ·intro v X hB hj K hK
         have h7:v 7= .bool true:=hj 7 (needs_mem (by kernel_rfl))
         have h20:v 20= .bool true:=hj 20 (needs_mem (by kernel_rfl))
         refine wpOp_step (i:=21) (by rfl) (fun K' hK'=> ?_)
         refine value_ (w1:= ?_) (v:= ?_) (by rfl) rfl ?_ ?_
         rotate_left 2
         ·go_simp
          constructor
          ·rfl
          ·rfl
         exact hK' _ _ (hK _ _ rfl hB (Below.refl _ _))
        ·intro v X hB hj K hK
         have h21:v 21= .bool true:=hj 21 (needs_mem (by kernel_rfl))
         refine wpOp_step (i:=22) (by rfl) (fun K' hK'=> ?_)
         refine value_ (w1:= ?_) (v:= ?_) (by rfl) rfl ?_ ?_
         rotate_left 2
         ·go_simp
          constructor
          ·rfl
          ·rfl
         exact hK' _ _ (hK _ _ rfl hB (Below.refl _ _))
        ·intro v X hB hj K hK
         have h22:v 22= .bool true:=hj 22 (needs_mem (by kernel_rfl))
         refine wpOp_step (i:=23) (by rfl) (fun K' hK'=> ?_)
         refine goes_ Try.func20 (by kernel_rfl) rfl #[] (wanted_g rfl (yv (x:=v 22) h22)) rfl rfl (by simp) ?_
         refine(awake_calls X).mono ?_
         rintro e w' ⟨rfl,hb⟩
         exact⟨_,rfl,hK' _ _ (hK _ _ rfl (below_step hB hb) hb)⟩
        ·intro v X hB hj K hK
         have h22:v 22= .bool true:=hj 22 (needs_mem (by kernel_rfl))
         have h23:v 23= .bool true:=hj 23 (needs_mem (by kernel_rfl))
         refine wpOp_step (i:=24) (by rfl) (fun K' hK'=> ?_)
         refine value_ (w1:= ?_) (v:= ?_) (by rfl) rfl ?_ ?_
         rotate_left 2
         ·go_simp
          constructor
          ·rfl
          ·rfl
         exact hK' _ _ (hK _ _ rfl hB (Below.refl _ _))
       ·intro v X hB hj K hK
        have h24:v 24= .bool true:=hj 24 (needs_mem (by kernel_rfl))
        refine wpOp_step (i:=25) (by rfl) (fun K' hK'=> ?_)
        refine value_ (w1:= ?_) (v:= ?_) (by rfl) rfl ?_ ?_
        rotate_left 2
        ·go_simp
         constructor
         ·rfl
         ·rfl
        refine hK' _ _ (hK _ _ ?_)
        have HBW:=Aside0.mk (below_step HB.out (below_step hbd hB))
        show Exit.then _ _ .normal {tmps:=#[.agg (r.cells (⟨A1,c1,A2,c2,A3,c3,A4,c4,A5,c5⟩:SA)),.int .u8 (t:Int),.pointer (some ⟨g1,0,none⟩),undef,.bool true,.slice Aq q.length cq,.int .i64 0,.int .i64 (bitSum q q.length),.int .i64 (q.length:Int),.int .i64 (m:Int),.pointer (some ⟨g6,0,none⟩),.int .i64 st,.int .i64 er,.agg #[.int .i64 r.a0,.slice A1 r.l1.length c1,.slice A2 r.l2.length c2,.slice A3 r.l3.length c3,.slice A4 r.l4.length c4,.slice A5 r.l5.length c5],.bool true,.bool false,undef,.tuple #[.slice Aq q.length cq,.int .i64 0],.agg #[.int .i64 r.a0,.slice A1 r.l1.length c1,.slice A2 r.l2.length c2,.slice A3 r.l3.length c3,.slice A4 r.l4.length c4,.slice A5 r.l5.length c5],.agg (x'.cells r.sl),.tuple #[.slice Aq q.length cq,.int .i64 0],.slice Aq q.length cq,.int .i64 0,.int .i64 0,.bool false,.int .i64 (q.length:Int),.slice Aq q.length cq,.int .i64 (q.length:Int),.bool false,u29,u30,u31,u32,u33,u34,u35,u36,u37,u38,u39,u40,u41,u42,u43,u44,u45,u46,u47,u48,u49,u50,u51,u52,u53,u54,u55,u56,u57,u58,u59,u60,u61,u62,u63,u64,u65,u66,u67,u68,u69,.int .u8 (t:Int),.int .i64 (t:Int),.agg #[.int .i64 r.a0,.slice A1 r.l1.length c1,.slice A2 r.l2.length c2,.slice A3 r.l3.length c3,.slice A4 r.l4.length c4,.slice A5 r.l5.length c5],.int .i64 F,.int .i64 (m:Int),z14_0,z14_1,z14_2,z14_3,z14_4,.agg (RL.cells (r.some cM) ⟨A1,c1,A2,c2,A3,c3,A4,c4,B5,d5⟩),z15_6,z15_0,z15_1,z15_2,z15_3,z15_4,z15_5,z15_7,z15_8,v 0,v 1,v 2,v 3,v 4,v 5,v 6,v 7,v 8,v 9,v 10,v 11,v 12,v 13,v 14,v 15,v 16,v 17,v 18,v 19,v 20,v 21,v 22,v 23,v 24],defers:= []} (X)
        generalize v 0=z16_0
        generalize v 1=z16_1
        generalize v 2=z16_2
        generalize v 3=z16_3
        generalize v 4=z16_4
        generalize v 5=z16_5
        generalize v 6=z16_6
        generalize v 7=z16_7
        generalize v 8=z16_8
        generalize v 9=z16_9
        generalize v 10=z16_10
        generalize v 11=z16_11
        generalize v 12=z16_12
        generalize v 13=z16_13
        generalize v 14=z16_14
        generalize v 15=z16_15
        generalize v 16=z16_16
        generalize v 17=z16_17
        generalize v 18=z16_18
        generalize v 19=z16_19
        generalize v 20=z16_20
        generalize v 21=z16_21
        generalize v 22=z16_22
        generalize v 23=z16_23
        generalize v 24=z16_24
        clear hj hK hK' hB hbd
        go_wp2
        go_ret
        exact⟨rfl,HBW.out⟩
end Go.Proofs.Ytjifalohjlihaaa.Q
end
section
namespace Go.Proofs.Ytjifalohjlihaaa.shelfLeft
open Go.ChangeShapes Go.WideShapes Go.ChangeAt Go.RowKit
set_option linter.unusedVariables false
theorem own:ownKnob Try.prog.godebug=none:=by kernel_rfl
theorem laidOut:laidOutB Try.prog=true:=by kernel_rfl
set_option maxRecDepth 100000 in
theorem lifted (os:Os) (started:os.Started) (H:Type) (enc:TypeId×Value→H):
  ReturnsInHanded {} Try.checked os 10 .any (Rows.shelfLeftSpec.pre6 enc Try.prog Try.f10 Rows.shelfLeftRow.domain false) (Rows.shelfLeftSpec.post enc Try.prog Try.f10 false true false false):=by
 refine returnsInHanded_of_change_sized (C:=Try.checked) own started (by kernel_rfl) Try.func10
  (ChangeSpec.witness6 (enc:=enc) (C:=Try.checked) false ⟨#[],#[.agg #[.int .i64 0,.slice none 0 0,.slice none 0 0,.slice none 0 0,.slice none 0 0,.slice none 0 0],.int .u8 0],[]⟩ 8 (by kernel_rfl) (by kernel_rfl) (by kernel_rfl) (by kernel_rfl)) ?_
 intro W base args ds gs before hval0 hW hcnd hsz0 _
 have hval:∀(j:Nat) t v,Try.f10.params[j]? =some t→args[j]? =some v→Value.okWide Try.prog W .any base t v:=hval0
 have hW':=hW
 obtain⟨p,q,hA0,hV,rfl,hfz,hnd⟩:=hW
 have hA:DataW.TrodAll enc Try.prog W 0 (fun _=>true) true Try.f10.params.toList args.toList ds p:=hA0
 rw [Try.params10]at hA hval
 obtain⟨v0,vs0,d0,ds0,p0,q0,hargs,rfl,rfl,h0,r0⟩:=trodAll_cons hA
 obtain⟨v1,vs1,d1,ds1,p1,q1,hargs1,rfl,rfl,h1,r1⟩:=trodAll_cons r0
 obtain⟨rfl,rfl,rfl⟩:=trodAll_nil r1
 obtain rfl:args=#[v0,v1]:=by cases args;simp_all
 obtain⟨rfl,rfl⟩:=trodVars_none hV
 have k0:=h0
 have lt0:∀x∈p0,x.block < W.heap.size:=by obtain⟨m,hm⟩:=k0;exact DataW.trod_lt m _ _ _ hm
 have k1:=h1
 have lt1:∀x∈p1,x.block < W.heap.size:=by obtain⟨m,hm⟩:=k1;exact DataW.trod_lt m _ _ _ hm
 obtain⟨cs0,rfl,hcs0⟩:=okWide_struct Try.underlying28 (hval 0 28 v0 rfl rfl)
 obtain⟨x0,r0',e0,hr0⟩:∃x r,cs0=Q.RL.cells r x∧Q.RRd W x r:=by
  obtain⟨fuel,hf⟩:=h0
  obtain⟨x,r,e,hr⟩:=Q.open_L hf
  exact⟨x,r,by rw [←e];simp [Value.cells],hr⟩
 subst e0
 obtain⟨n1,rfl⟩:=okWide_int Try.underlying5 (hval 1 5 v1 rfl rfl)
 have hw1:(Lit.int .u8 n1).wf=true:=by
  obtain⟨fuel,hf⟩:=h1
  obtain⟨n',h,_,hw⟩:=DataW.trod_int Try.underlying5 hf
  obtain rfl:n1=n':=by simpa [Value.cells] using h
  exact hw
 obtain⟨t1,ht1,rfl⟩:=Q.wf_u8 hw1
 clear hA0 hval0 hsz0
 refine(Q.ShelfLeft_calls x0 r0' t1 ht1 W hr0).mono fun e W' ⟨he,bel⟩=> ?_
 subst he
 exact⟨_,rfl,_,_,_,[],_,[],hW',trodAll_mk1 (shut_bool Try.underlying4 _),(trodAll_cons_mk (Below.trod laidOut (by kernel_rfl) (of_decide_eq_true (by kernel_rfl)) k0 bel lt0) (trodAll_cons_mk (Below.trod laidOut (by kernel_rfl) (of_decide_eq_true (by kernel_rfl)) k1 bel lt1) trodAll_mk0)),rfl,bel.frame _,fun h=>by cases h⟩
theorem over:Rows.shelfLeftRow.holds Try.pinned (OpenSpec.ofChange Rows.shelfLeftSpec):=
 OpenClaim.holds_of_wide 10 Try.f10 rfl rfl rfl rfl rfl rfl rfl ⟨rfl,rfl,rfl,rfl,rfl⟩ rfl rfl rfl rfl rfl (by kernel_rfl) Try.func10 (by kernel_rfl)
  (of_decide_eq_true (by kernel_rfl)) (by unfold Func.isWrapper;first|(rw [if_pos (by decide+kernel)];kernel_rfl)|(rw [if_neg (by decide+kernel)];exact⟨rfl,rfl⟩))
  (fun os started H enc _=>lifted os started H enc)
theorem proved:Rows.ShelfLeftSaid:=over
end Go.Proofs.Ytjifalohjlihaaa.shelfLeft
namespace Go.Proofs.Ytjifalohjlihaaa
theorem shelfLeft_holds:Rows.ShelfLeftSaid:=shelfLeft.proved
end Go.Proofs.Ytjifalohjlihaaa
end
