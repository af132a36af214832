import Derived.Test.YtjifalohjlihaaaA3
import Derived.DeepKeys3
import Derived.Laws.ResultCell
import Derived.Maps.Own
import Derived.Maps.Views
section
namespace Go.Proofs.Ytjifalohjlihaaa.Q
set_option linter.unusedVariables false
open Go.BigFrame Go.RowKit Go.Shelf Go.Proofs.YtjifalohjlihaaaW.PrintWords Go.Proofs.YtjifalohjlihaaaW.PrintLast Go.Proofs.YtjifalohjlihaaaW.PrintMore
def kN:Kd (List Int) where
 sz:=11
 E:= []
 K:=fun _ x cs=>x.length=11∧cs=nums .i64 x
 M:=fun _ _ _ x cs=>x.length=11∧cs=nums .i64 x
 K_len:=fun h=>by rw [h.2];simpa [nums] using h.1
 K_one:=fun h u hu=>by
  rw [h.2]at hu
  simp only [nums,List.mem_map]at hu
  obtain⟨a,_,rfl⟩:=hu
  rfl
 K_below:=fun _ h=>h
 K_of_M:=fun h=>h
 M_mono:=fun _ h=>h
 M_bound:=fun h=>h
 M_move:=fun _ h=>h
 M_lower:=fun _ h=>h
def rd_N (xs:List (List Int)) (i:Int):List Int:=xs.getD i.toNat []
theorem at_N {w:World} {A:Option Addr} {n:Nat} {xs:List (List Int)} (h:Kd.C kN w A n xs) (i:Int) (h0:0≤i) (h1:i < n):∃ad,A=some ad∧(rd_N xs i).length=11∧w.cell? (ad.add (i.toNat*11))=some (.int .i64 (rd (rd_N xs i) 0))∧w.cell? ⟨(ad.add (i.toNat*11)).block,(ad.add (i.toNat*11)).off+1,none⟩=some (.int .i64 (rd (rd_N xs i) 1))∧w.cell? ⟨(ad.add (i.toNat*11)).block,(ad.add (i.toNat*11)).off+2,none⟩=some (.int .i64 (rd (rd_N xs i) 2))∧w.cell? ⟨(ad.add (i.toNat*11)).block,(ad.add (i.toNat*11)).off+3,none⟩=some (.int .i64 (rd (rd_N xs i) 3))∧w.cell? ⟨(ad.add (i.toNat*11)).block,(ad.add (i.toNat*11)).off+4,none⟩=some (.int .i64 (rd (rd_N xs i) 4))∧w.cell? ⟨(ad.add (i.toNat*11)).block,(ad.add (i.toNat*11)).off+5,none⟩=some (.int .i64 (rd (rd_N xs i) 5))∧w.cell? ⟨(ad.add (i.toNat*11)).block,(ad.add (i.toNat*11)).off+6,none⟩=some (.int .i64 (rd (rd_N xs i) 6))∧w.cell? ⟨(ad.add (i.toNat*11)).block,(ad.add (i.toNat*11)).off+7,none⟩=some (.int .i64 (rd (rd_N xs i) 7))∧w.cell? ⟨(ad.add (i.toNat*11)).block,(ad.add (i.toNat*11)).off+8,none⟩=some (.int .i64 (rd (rd_N xs i) 8))∧w.cell? ⟨(ad.add (i.toNat*11)).block,(ad.add (i.toNat*11)).off+9,none⟩=some (.int .i64 (rd (rd_N xs i) 9))∧w.cell? ⟨(ad.add (i.toNat*11)).block,(ad.add (i.toNat*11)).off+10,none⟩=some (.int .i64 (rd (rd_N xs i) 10)):=by
 obtain⟨ad,c,e,_,hK,hc0⟩:=Kd.C_get h [] i h0 h1
 have hc:∀j u,c[j]? =some u→w.cell? (ad.add (i.toNat*11+j))=some u:=hc0
 obtain⟨hl,rfl⟩:=hK
 have hg:∀j:Nat,j < 11→(nums .i64 (rd_N xs i))[j]? =some (.int .i64 (rd (rd_N xs i) j)):=by
  intro j hj
  have hj2:j <(rd_N xs i).length:=by unfold rd_N;omega
  simp [nums,rd,List.getElem?_eq_getElem hj2]
 exact⟨ad,e,hl,hc 0 _ (hg 0 (by omega)),by rw [←add_field _ _ 1 (by omega)];exact hc 1 _ (hg 1 (by omega)),by rw [←add_field _ _ 2 (by omega)];exact hc 2 _ (hg 2 (by omega)),by rw [←add_field _ _ 3 (by omega)];exact hc 3 _ (hg 3 (by omega)),by rw [←add_field _ _ 4 (by omega)];exact hc 4 _ (hg 4 (by omega)),by rw [←add_field _ _ 5 (by omega)];exact hc 5 _ (hg 5 (by omega)),by rw [←add_field _ _ 6 (by omega)];exact hc 6 _ (hg 6 (by omega)),by rw [←add_field _ _ 7 (by omega)];exact hc 7 _ (hg 7 (by omega)),by rw [←add_field _ _ 8 (by omega)];exact hc 8 _ (hg 8 (by omega)),by rw [←add_field _ _ 9 (by omega)];exact hc 9 _ (hg 9 (by omega)),by rw [←add_field _ _ 10 (by omega)];exact hc 10 _ (hg 10 (by omega))⟩
def SL.truths (l:SL):List (List Int):=(enumP l.ranges []).filter fun ns=>l.right ns []
theorem enumP_take:∀(rs:List S56) (p:List Int),∀ns∈enumP rs p,ns.take p.length=p:=by
 intro rs
 induction rs with
 |nil=>
  intro p ns hns
  simp only [enumP,List.mem_singleton]at hns
  subst hns
  simp
 |cons r t ih=>
  intro p ns hns
  simp only [enumP,List.mem_flatMap,List.mem_range]at hns
  obtain⟨n,hn,hns⟩:=hns
  have h:=congrArg (List.take p.length) (ih _ ns hns)
  rw [List.take_take]at h
  simpa using h
theorem enumP_nodup:∀(rs:List S56) (p:List Int),(enumP rs p).Nodup:=by
 intro rs
 induction rs with
 |nil=>intro p;simp [enumP]
 |cons r t ih=>
  intro p
  unfold enumP List.Nodup
  rw [List.pairwise_flatMap]
  refine⟨fun n _=>ih _,?_⟩
  refine List.Pairwise.imp ?_ (List.nodup_range)
  intro a b hab x hx y hy e
  subst e
  have h1:=enumP_take t _ x hx
  have h2:=enumP_take t _ x hy
  rw [List.length_append,List.length_singleton]at h1 h2
  rw [h1]at h2
  have h3:=List.append_cancel_left h2
  simp only [List.cons.injEq,and_true]at h3
  omega
def sizeP:List S56→Nat
 | []=>1
 |r::t=>(r.f1-r.f0+1).toNat*sizeP t
theorem enumP_length:∀(rs:List S56) (p:List Int),(enumP rs p).length=sizeP rs:=by
 intro rs
 induction rs with
 |nil=>intro p;rfl
 |cons r t ih=>
  intro p
  unfold enumP sizeP
  rw [List.length_flatMap,List.map_congr_left (g:=fun _=>sizeP t) (fun n _=>ih _)]
  generalize (r.f1-r.f0+1).toNat=k
  induction k with
  |zero=>simp
  |succ k ihk=>rw [List.range_succ,List.map_append,List.sum_append,ihk,Nat.succ_mul];simp
theorem sizeP_pos:∀(rs:List S56),(∀r∈rs,r.f0≤r.f1)→1≤sizeP rs:=by
 intro rs
 induction rs with
 |nil=>intro _;exact Nat.le_refl _
 |cons r t ih=>
  intro h
  have h1:=h r List.mem_cons_self
  have h2:=ih (fun r' hr'=>h r' (List.mem_cons_of_mem _ hr'))
  exact Nat.mul_le_mul (show 1≤(r.f1-r.f0+1).toNat by omega) h2
theorem manyOf_size : ∀ (rs : List S56) (m : Nat), (∀ r ∈ rs, r.f0 ≤ r.f1) → manyOf rs m ≤ 2000 → m * sizeP rs ≤ 2000 := by
  intro rs
  induction rs with
  | nil => intro m _ h; simp only [manyOf, sizeP] at h ⊢; omega
  | cons r t ih =>
    intro m hr h
    have h1 := hr r List.mem_cons_self
    have ht : ∀ r' ∈ t, r'.f0 ≤ r'.f1 := fun r' hr' => hr r' (List.mem_cons_of_mem _ hr')
    unfold manyOf at h
    unfold sizeP
    obtain ⟨k, hk⟩ : ∃ k : Nat, r.f1 - r.f0 + 1 = (k : Int) := ⟨(r.f1 - r.f0 + 1).toNat, by omega⟩
    rw [hk] at h ⊢
    rw [Int.toNat_natCast]
    by_cases hc : m * k ≤ 2001
    · have e : mn ((m : Int) * k) 2001 = ((m * k : Nat) : Int) := by unfold mn; split <;> omega
      rw [e] at h
      rw [← Nat.mul_assoc]
      exact ih _ ht h
    · have e : mn ((m : Int) * k) 2001 = ((2001 : Nat) : Int) := by
        have : (2001 : Int) ≤ (m : Int) * k := by have : ((m * k : Nat) : Int) = (m : Int) * k := by simp
                                                  omega
        unfold mn; split <;> omega
      rw [e] at h
      have h3 := ih _ ht h
      have h4 := sizeP_pos t ht
      have h5 : 2001 * 1 ≤ 2001 * sizeP t := Nat.mul_le_mul_left _ h4
      omega
theorem enumP_len {l:SL} (hf:l.fault=0) (p:List Int):(enumP l.ranges p).length≤2000:=by
 have hv:=valid_of hf
 rw [enumP_length]
 have hr:∀r∈l.ranges,r.f0≤r.f1:=fun r hr=>by obtain⟨i,h0,h1,rfl⟩:=mem_rd_T hr;exact(hv.ranges i h0 h1).2.1
 have:=manyOf_size l.ranges 1 hr (by simpa using (fault_zero hf).2.2.2.2.2.2.2.2.2.2.2)
 omega
def SL.err (l:SL) (b:Bool):Int:=if l.fault≠0 then l.fault else if b=false then 2 else if l.truths= []then 11 else 0
structure Work (X:World) (x:SA) (l:SL) (gW gM:Nat) (A7:Option Addr) (c7:Nat):Prop where
 bW:X.heap[gW]? =some (.cells #[.int .i64 l.a0,.slice x.A1 l.l1.length x.c1,.slice x.A2 l.l2.length x.c2,.slice x.A3 l.l3.length x.c3,.slice x.A4 l.l4.length x.c4,.slice x.A5 l.l5.length x.c5,.slice A7 l.truths.length c7,.map (some gM)] 170 (0,0))
 tr:Kd.C kN X A7 l.truths.length l.truths
 h7:l.truths.length≤c7
 rd:Rd X x l
theorem Work.below {X Y:World} {x:SA} {l:SL} {gW gM:Nat} {A7:Option Addr} {c7:Nat} (h:Work X x l gW gM A7 c7) (hb:Below X.heap.size X Y):Work Y x l gW gM A7 c7:=
 ⟨blk_below h.bW hb,Kd.C_below h.tr hb,h.h7,h.rd.below hb⟩
def Asked (x:SA) (l:SL) (b:Bool) (w:World) (e:Ending) (Y:World):Prop:=Below w.heap.size w Y∧∃p,e= .returned (.tuple #[p,.int .i64 (l.err b)])∧(l.err b≠0→p= .pointer none)∧
 (l.err b=0→∃gW gM A7 c7,p= .pointer (some ⟨gW,0,none⟩)∧Work Y x l gW gM A7 c7∧w.heap.size≤gW∧w.heap.size≤gM∧Y.heap[gM]? =some (.map #[] 0))
theorem info147:(Try.prog.info? 147).map (fun i=>(i.zero,i.size,i.bytes))=some (some (.agg #[(.int .i64 0),(.int .i64 0),(.int .i64 0),(.int .i64 0),(.int .i64 0),(.int .i64 0),(.int .i64 0),(.int .i64 0),(.int .i64 0),(.int .i64 0),(.int .i64 0)]),11,88):=by kernel_rfl
structure AskI (w wT:World) (x:SA) (l:SL) (g2 g7 gW gM:Nat) (ts:List (List Int)) (tv:Value) (Own:Nat→Prop) (X:World):Prop where
 bel:Below w.heap.size w X
 size:wT.heap.size≤X.heap.size
 lt:∀k,Own k→k < X.heap.size
 b2:X.heap[g2]? =some (.cells (x.cells l) 39 (0,0))
 b7:X.heap[g7]? =some (.cells #[.pointer (some ⟨gW,0,none⟩)] 120 (0,0))
 bW:X.heap[gW]? =some (.cells #[.int .i64 l.a0,.slice x.A1 l.l1.length x.c1,.slice x.A2 l.l2.length x.c2,.slice x.A3 l.l3.length x.c3,.slice x.A4 l.l4.length x.c4,.slice x.A5 l.l5.length x.c5,tv,.map (some gM)] 170 (0,0))
 bM:X.heap[gM]? =some (.map #[] 0)
 row:Kd.R kN 147 X w.heap.size (fun k=>¬Own k) tv ts
theorem AskI.turn {w wT:World} {x:SA} {l:SL} {g2 g7 gW gM:Nat} {ts:List (List Int)} {tv:Value} {Own:Nat→Prop} {X Y:World} (h:AskI w wT x l g2 g7 gW gM ts tv Own X) (hw:w.heap.size≤wT.heap.size) (h2:g2 < wT.heap.size) (h7:g7 < wT.heap.size) (hW:gW < wT.heap.size) (hM:gM < wT.heap.size)
  (ho:∀k,Own k→wT.heap.size≤k) (ht:Turn Own X Y):AskI w wT x l g2 g7 gW gM ts tv Own Y:=
 ⟨Turn.below h.bel ht (fun k hk=>Nat.le_trans hw (ho k hk)) h.bel.size,Nat.le_trans h.size ht.size,fun k hk=>Nat.lt_of_lt_of_le (h.lt k hk) ht.size,ht.blk h.b2 (fun hh=>by have:=ho _ hh;omega),ht.blk h.b7 (fun hh=>by have:=ho _ hh;omega),ht.blk h.bW (fun hh=>by have:=ho _ hh;omega),ht.blk h.bM (fun hh=>by have:=ho _ hh;omega),Kd.R_step h.row (fun k hk hlt=>ht.block k hlt hk)⟩
structure GB (X:World) where
 W:World
 bel:Below X.heap.size X W
instance (X:World):Inhabited (GB X):=⟨⟨X,Below.refl _ _⟩⟩
theorem gb_cell {X:World} {a:Addr} {v:Value} (h:X.cell? a=some v) (p:GB X):p.W.cell? a=some v:=(p.bel.cell (World.block_lt_of_cell? X _ h)).trans h
theorem quiet_round_lit {n L:Nat} {P:Program} {Q:Exit→Act→World→Prop} {id:Nat} {a:Act} {w:World} {l:List Oper} (hm:P.follows .mixedOrders=true) (hB:Region.lexB .any l.toArray=true) (hd:noDefer l=true) (hL:¬LetsOut Q)
  (h:wpQuiet P l.toArray (fun w'=>∃p:GB w,w'=p.W) (fun a'=>∀w',(∃p:GB w,w'=p.W)→Q .normal a' w') l a):(Code.region id l.toArray true).wpIn (Fence.wide.inRound L) n P Q a w:=
 quiet_round (C:=fun w'=>∃p:GB w,w'=p.W) hm hB (by simpa using hd) hL ⟨⟨w.drew,by exact below_drew1 (Below.refl _ _)⟩,rfl⟩ (by simpa using h)
attribute [local go_sem] run_makeMap Oper.semAt_some
set_option maxRecDepth 100000 in
set_option maxHeartbeats 3200000 in
theorem L_asked.calls (x:SA) (l:SL) (F:Nat) (lb:Array Value) (b:Bool) (w:World) (hr:Rd w x l)
  (hF:l.fault=0→∀W,Below w.heap.size w W→Calls Try.prog F lb W fun e w'=>e= .returned (.bool b)∧Below W.heap.size W w') (eF:∀w,(callFunc F lb).run Try.prog w= .ok (.enter F lb) w):
  Calls Try.prog 72 #[.agg (x.cells l),.func (.func F) #[] lb] w (Asked x l b w):=by
 obtain⟨A1,c1,A2,c2,A3,c3,A4,c4,A5,c5⟩:=x
 have HB:=Aside0.mk (Below.refl w.heap.size w)
 have HR:=Aside0.mk hr
 have HF:=Aside0.mk hF
 clear hr hF
 refine callsIn_wide.1 (callsIn_of_wp_marks (n:=2) Try.func72 rfl trivial ?_ rfl)
 refine wpIn_wide.2 ?_
 simp only [Try.ntmps72,List.size_toArray,List.length_cons,List.length_nil,Nat.reduceAdd,Nat.reduceSub,Array.replicate_succ,Array.replicate_zero,List.push_toArray,List.append_toArray,List.nil_append,List.cons_append]
 by_cases hft:l.fault=0
 ·by_cases hb:b=true
  ·subst hb
   replace HF:=Aside0.mk (HF.out hft)
   have HFT:=Aside0.mk hft
   have hfz:(l.fault !=0)=false:=by rw [hft];rfl
   clear hft
   go_upto_region 6 with(first|((with_reducible refine gate_dst (N:=2) rfl ?_);refine box_event ?hg (N:=2) ?hd (cs:=#[.int .i64 l.a0,.slice A1 l.l1.length c1,.slice A2 l.l2.length c2,.slice A3 l.l3.length c3,.slice A4 l.l4.length c4,.slice A5 l.l5.length c5]) (t:=39) ?hr ?_;(case hd=>rfl);(case hg=>rfl);(case hr=>first|(go_simp;done)|(go_simp;rfl));intro g2 hg_ w2 hbx_ hb_;have BK2:=Aside0.mk hbx_;have g2ge:w.heap.size≤g2:=(by have:=below_size HB.out;omega);have g2GE:=Aside0.mk g2ge;clear g2ge;have HBn:=Aside0.mk (below_step HB.out hb_);clear HB hg_ hb_ hbx_;have HB:=HBn;clear HBn;have f0:w2.cell? ⟨g2,0,none⟩=some (.int .i64 l.a0):=(blk_cell BK2.out 0).trans rfl;have f1:w2.cell? ⟨g2,1,none⟩=some (.slice A1 l.l1.length c1):=(blk_cell BK2.out 1).trans rfl;have f2:w2.cell? ⟨g2,2,none⟩=some (.slice A2 l.l2.length c2):=(blk_cell BK2.out 2).trans rfl;have f3:w2.cell? ⟨g2,3,none⟩=some (.slice A3 l.l3.length c3):=(blk_cell BK2.out 3).trans rfl;have f4:w2.cell? ⟨g2,4,none⟩=some (.slice A4 l.l4.length c4):=(blk_cell BK2.out 4).trans rfl;have f5:w2.cell? ⟨g2,5,none⟩=some (.slice A5 l.l5.length c5):=(blk_cell BK2.out 5).trans rfl)|(go_at_call 56;go_must (refine(CheckLoft.call ⟨A1,c1,A2,c2,A3,c3,A4,c4,A5,c5⟩ l _ (HR.out.below HB.out)).mono ?_;clear f0 f1 f2 f3 f4 f5;rintro e wE ⟨rfl,hbe⟩;replace BK2:=Aside0.mk (blk_below BK2.out hbe);replace HB:=Aside0.mk (below_step HB.out hbe);clear hbe))|(refine(HF.out _ HB.out).mono ?_;go_must (rintro e wF ⟨rfl,hbe⟩;replace BK2:=Aside0.mk (blk_below BK2.out hbe);replace HB:=Aside0.mk (below_step HB.out hbe);clear hbe;have f0:wF.cell? ⟨g2,0,none⟩=some (.int .i64 l.a0):=(blk_cell BK2.out 0).trans rfl;have f1:wF.cell? ⟨g2,1,none⟩=some (.slice A1 l.l1.length c1):=(blk_cell BK2.out 1).trans rfl;have f2:wF.cell? ⟨g2,2,none⟩=some (.slice A2 l.l2.length c2):=(blk_cell BK2.out 2).trans rfl;have f3:wF.cell? ⟨g2,3,none⟩=some (.slice A3 l.l3.length c3):=(blk_cell BK2.out 3).trans rfl;have f4:wF.cell? ⟨g2,4,none⟩=some (.slice A4 l.l4.length c4):=(blk_cell BK2.out 4).trans rfl;have f5:wF.cell? ⟨g2,5,none⟩=some (.slice A5 l.l5.length c5):=(blk_cell BK2.out 5).trans rfl)))
   go_upto_region 7 with(first|((with_reducible refine gate_dst (N:=20) rfl ?_);obtain⟨gM,hg_⟩:∃g_,g_=wF.heap.size:=⟨_,rfl⟩;obtain⟨wM,hw_⟩:∃w_,w_=World.alloc wF (Obj.map #[] 0):=⟨_,rfl⟩;have hb_:Below wF.heap.size wF wM:=(by rw [hw_];exact below_alloc (Below.refl _ _) _);have BKM:Aside0 (wM.heap[gM]? =some (Obj.map #[] 0)):=⟨by rw [hw_,hg_];exact blk_new _ _⟩;have gMGE:Aside0 (w.heap.size≤gM):=⟨by have:=below_size HB.out;rw [hg_];exact this⟩;replace BK2:=Aside0.mk (blk_below BK2.out hb_);replace HB:=Aside0.mk (below_step HB.out hb_);rw [←hw_,←hg_];clear hw_ hg_ hb_ f0 f1 f2 f3 f4 f5;((with_reducible refine gate_dst (N:=20) rfl ?_);refine box_event ?hg (N:=20) ?hd (cs:=#[.int .i64 l.a0,.slice A1 l.l1.length c1,.slice A2 l.l2.length c2,.slice A3 l.l3.length c3,.slice A4 l.l4.length c4,.slice A5 l.l5.length c5,.slice none 0 0,.map (some gM)]) (t:=170) ?hr ?_;(case hd=>rfl);(case hg=>rfl);(case hr=>first|(go_simp;done)|(go_simp;rfl));intro gW hg_ w20 hbx_ hb_;have BKW:=Aside0.mk hbx_;have gWge:w.heap.size≤gW:=(by have:=below_size HB.out;omega);have gWGE:=Aside0.mk gWge;clear gWge;have HBn:=Aside0.mk (below_step HB.out hb_);have z_:=Aside0.mk (blk_below BK2.out hb_);clear BK2;have BK2:=z_;clear z_;have z_:=Aside0.mk (blk_below BKM.out hb_);clear BKM;have BKM:=z_;clear z_;clear HB hg_ hb_ hbx_;have HB:=HBn;clear HBn)))
   obtain⟨g7,hg_⟩:∃g_,g_=w20.heap.size:=⟨_,rfl⟩
   obtain⟨w7,hw_⟩:∃w_,w_=World.alloc w20 (Obj.cells #[.pointer (some ⟨gW,0,none⟩)] 120):=⟨_,rfl⟩
   have hb_:Below w20.heap.size w20 w7:=by rw [hw_];exact below_alloc (Below.refl _ _) _
   have BK7:Aside0 (w7.heap[g7]? =some (Obj.cells #[.pointer (some ⟨gW,0,none⟩)] 120)):=⟨by rw [hw_,hg_];exact blk_new _ _⟩
   have g7GE:Aside0 (w.heap.size≤g7):=⟨by have:=below_size HB.out;rw [hg_];exact this⟩
   replace BK2:=Aside0.mk (blk_below BK2.out hb_)
   replace BKM:=Aside0.mk (blk_below BKM.out hb_)
   replace BKW:=Aside0.mk (blk_below BKW.out hb_)
   replace HB:=Aside0.mk (below_step HB.out hb_)
   rw [←hw_,←hg_]
   clear hw_ hg_ hb_
   have f0:w7.cell? ⟨g2,0,none⟩=some (.int .i64 l.a0):=(blk_cell BK2.out 0).trans rfl
   have f1:w7.cell? ⟨g2,1,none⟩=some (.slice A1 l.l1.length c1):=(blk_cell BK2.out 1).trans rfl
   have f2:w7.cell? ⟨g2,2,none⟩=some (.slice A2 l.l2.length c2):=(blk_cell BK2.out 2).trans rfl
   have f3:w7.cell? ⟨g2,3,none⟩=some (.slice A3 l.l3.length c3):=(blk_cell BK2.out 3).trans rfl
   have f4:w7.cell? ⟨g2,4,none⟩=some (.slice A4 l.l4.length c4):=(blk_cell BK2.out 4).trans rfl
   have f5:w7.cell? ⟨g2,5,none⟩=some (.slice A5 l.l5.length c5):=(blk_cell BK2.out 5).trans rfl
   have HV:=Aside0.mk (valid_of HFT.out)
   go_wp2_with (go_at_call 114;go_must (refine(truths_calls ⟨A1,c1,A2,c2,A3,c3,A4,c4,A5,c5⟩ l _).mono ?_;clear f0 f1 f2 f3 f4 f5;rintro e wT ⟨gT,rfl,hgT,hb⟩;have HGT:=Aside0.mk hgT;replace BK2:=Aside0.mk (blk_below BK2.out hb);replace BKM:=Aside0.mk (blk_below BKM.out hb);replace BKW:=Aside0.mk (blk_below BKW.out hb);replace BK7:=Aside0.mk (blk_below BK7.out hb);replace HB:=Aside0.mk (below_step HB.out hb);clear hb hgT))
   have hT0:=HB.out.size
   have hg2:g2 < wT.heap.size:=blk_lt BK2.out
   have hg7:g7 < wT.heap.size:=blk_lt BK7.out
   have hgW:gW < wT.heap.size:=blk_lt BKW.out
   have hgM:gM < wT.heap.size:=(Array.getElem?_eq_some_iff.1 BKM.out).1
   have g2ge:=g2GE.out
   have g7ge:=g7GE.out
   have gWge:=gWGE.out
   have gMge:=gMGE.out
   obtain⟨ret,hret⟩:∃ret:List (List Int)→List (List Int),ret=fun pre=>pre.filter fun ns=>l.right ns []:=⟨_,rfl⟩
   refine rangeZ (T:=enumP l.ranges []) rfl (fun args w=>rfl) (truths_seq ⟨A1,c1,A2,c2,A3,c3,A4,c4,A5,c5⟩ l gT wT HV.out (HR.out.below HB.out) HGT.out) (Below.refl _ _)
    (fun Own pre X=>∃tv,AskI w wT ⟨A1,c1,A2,c2,A3,c3,A4,c4,A5,c5⟩ l g2 g7 gW gM (ret pre) tv Own X)
    (fun Own pre X=>False)
    (fun Own pre x a' X=>∃tv g8,AskI w wT ⟨A1,c1,A2,c2,A3,c3,A4,c4,A5,c5⟩ l g2 g7 gW gM (ret pre) tv Own X∧w.heap.size≤g8∧¬Own g8∧X.heap[g8]? =some (.cells (lit11 x) 147 (0,0))∧(∀k,tv.ownBlock=some k→k≠g8)∧a'= {tmps:=#[.agg #[.int .i64 l.a0,.slice A1 l.l1.length c1,.slice A2 l.l2.length c2,.slice A3 l.l3.length c3,.slice A4 l.l4.length c4,.slice A5 l.l5.length c5],.func (.func F) #[] lb,.pointer (some ⟨g2,0,none⟩),undef,.pointer none,.int .i64 0,.int .i64 l.fault,.pointer (some ⟨g7,0,none⟩),.pointer (some ⟨g8,0,none⟩),.agg #[.int .i64 l.a0,.slice A1 l.l1.length c1,.slice A2 l.l2.length c2,.slice A3 l.l3.length c3,.slice A4 l.l4.length c4,.slice A5 l.l5.length c5],.int .i64 l.fault,.int .i64 l.fault,.bool false,undef,.func (.func F) #[] lb,.bool true,.bool false,.agg #[.int .i64 l.a0,.slice A1 l.l1.length c1,.slice A2 l.l2.length c2,.slice A3 l.l3.length c3,.slice A4 l.l4.length c4,.slice A5 l.l5.length c5],.map (some gM),.agg #[.int .i64 l.a0,.slice A1 l.l1.length c1,.slice A2 l.l2.length c2,.slice A3 l.l3.length c3,.slice A4 l.l4.length c4,.slice A5 l.l5.length c5,.slice none 0 0,.map (some gM)],.pointer (some ⟨gW,0,none⟩),.agg #[.int .i64 l.a0,.slice A1 l.l1.length c1,.slice A2 l.l2.length c2,.slice A3 l.l3.length c3,.slice A4 l.l4.length c4,.slice A5 l.l5.length c5],.func (.func 133) #[] #[.pointer (some ⟨gT,0,none⟩)],.agg (lit11 x),undef,undef,undef,undef,undef,undef,undef,undef,undef,undef,undef,undef,undef,undef,undef,undef,undef,undef,undef,undef,undef,undef,undef,undef,undef,undef,undef,undef,undef,undef,undef,undef,undef,undef,undef,undef,undef,undef,undef,undef,undef,undef,undef,undef],defers:= []})
    ?h0 ?hI ?hIx ?hAx ?hassign ?hbody ?hdone ?hstop
   case h0=>
    intro Own X ho hlt ht
    exact⟨.slice none 0 0,Turn.below HB.out ht (fun k hk=>Nat.le_trans hT0 (ho k hk)) hT0,ht.size,hlt,ht.blk BK2.out (fun hh=>by have:=ho _ hh;omega),ht.blk BK7.out (fun hh=>by have:=ho _ hh;omega),ht.blk BKW.out (fun hh=>by have:=ho _ hh;omega),ht.blk BKM.out (fun hh=>by have:=ho _ hh;omega),by rw [hret];exact Kd.R_nil _ _ _ _ _⟩
   case hI=>
    rintro Own s X Y ho ⟨tv,h⟩ ht
    exact⟨tv,h.turn hT0 hg2 hg7 hgW hgM ho ht⟩
   case hIx=>exact fun Own s X Y ho h ht=>h.elim
   case hAx=>
    rintro Own s x a' X Y ho ⟨tv,g8,h1,h2,h3,h4,h5,h6⟩ ht
    exact⟨tv,g8,h1.turn hT0 hg2 hg7 hgW hgM ho ht,h2,h3,ht.blk h4 h3,h5,h6⟩
   case hassign=>
    rintro Own lab pre x X K ho ⟨tv,h1⟩ hpre hX hK
    simp only [List.setIfInBounds_toArray,List.set_cons_succ,List.set_cons_zero]
    gi_wp2
    have hba:=below_alloc (Below.refl X.heap.size X) (Obj.cells (lit11 x) 147 (0,0))
    exact hK _ _ (fun k hk hlt=>hba.block k hlt) ⟨tv,X.heap.size,h1.turn hT0 hg2 hg7 hgW hgM ho (Turn.of_below hba),h1.bel.size,fun hh=>by have:=h1.lt _ hh;omega,blk_new _ _,fun k hk=>by have:=((Kd.R_bound h1.row).1 k hk).2.2.1;omega,rfl⟩
   case hbody=>
    rintro Own lab pre x a' X ho ⟨tv,g8,h1,h8,hn8,b8,hd8,rfl⟩ hpre
    dsimp only
    have HN:=Aside0.mk (HV.out.num (ns:=x) (hpre.subset (by simp)))
    have H1:=Aside0.mk h1
    have HO:=Aside0.mk ho
    have B8:=Aside0.mk b8
    have HD8:=Aside0.mk hd8
    have HN8:=Aside0.mk hn8
    have HPRE:=Aside0.mk hpre
    have HRET:=Aside0.mk hret
    have f0:X.cell? ⟨g2,0,none⟩=some (.int .i64 l.a0):=(blk_cell H1.out.b2 0).trans rfl
    have f1:X.cell? ⟨g2,1,none⟩=some (.slice A1 l.l1.length c1):=(blk_cell H1.out.b2 1).trans rfl
    have f2:X.cell? ⟨g2,2,none⟩=some (.slice A2 l.l2.length c2):=(blk_cell H1.out.b2 2).trans rfl
    have f3:X.cell? ⟨g2,3,none⟩=some (.slice A3 l.l3.length c3):=(blk_cell H1.out.b2 3).trans rfl
    have f4:X.cell? ⟨g2,4,none⟩=some (.slice A4 l.l4.length c4):=(blk_cell H1.out.b2 4).trans rfl
    have f5:X.cell? ⟨g2,5,none⟩=some (.slice A5 l.l5.length c5):=(blk_cell H1.out.b2 5).trans rfl
    have fN_0:X.cell? ⟨g8,0,none⟩=some (.int .i64 (rd x 0)):=(blk_cell B8.out 0).trans rfl
    have fN_1:X.cell? ⟨g8,1,none⟩=some (.int .i64 (rd x 1)):=(blk_cell B8.out 1).trans rfl
    have fN_2:X.cell? ⟨g8,2,none⟩=some (.int .i64 (rd x 2)):=(blk_cell B8.out 2).trans rfl
    have fN_3:X.cell? ⟨g8,3,none⟩=some (.int .i64 (rd x 3)):=(blk_cell B8.out 3).trans rfl
    have fN_4:X.cell? ⟨g8,4,none⟩=some (.int .i64 (rd x 4)):=(blk_cell B8.out 4).trans rfl
    have fN_5:X.cell? ⟨g8,5,none⟩=some (.int .i64 (rd x 5)):=(blk_cell B8.out 5).trans rfl
    have fN_6:X.cell? ⟨g8,6,none⟩=some (.int .i64 (rd x 6)):=(blk_cell B8.out 6).trans rfl
    have fN_7:X.cell? ⟨g8,7,none⟩=some (.int .i64 (rd x 7)):=(blk_cell B8.out 7).trans rfl
    have fN_8:X.cell? ⟨g8,8,none⟩=some (.int .i64 (rd x 8)):=(blk_cell B8.out 8).trans rfl
    have fN_9:X.cell? ⟨g8,9,none⟩=some (.int .i64 (rd x 9)):=(blk_cell B8.out 9).trans rfl
    have fN_10:X.cell? ⟨g8,10,none⟩=some (.int .i64 (rd x 10)):=(blk_cell B8.out 10).trans rfl
    have f7:X.cell? ⟨g7,0,none⟩=some (.pointer (some ⟨gW,0,none⟩)):=(blk_cell H1.out.b7 0).trans rfl
    have fW:X.cell? ⟨gW,6,none⟩=some (tv):=(blk_cell H1.out.bW 6).trans rfl
    obtain⟨A7,c7,htv,hl7,hc7⟩:=Kd.R_reads h1.row
    have HL7:=Aside0.mk hl7
    have HC7:=Aside0.mk hc7
    have HTV:=Aside0.mk htv
    subst htv
    obtain⟨rt,hrt⟩:∃rt,rt=l.right x []:=⟨_,rfl⟩
    have HRT:=Aside0.mk hrt
    replace f0:=gb_cell f0
    replace f1:=gb_cell f1
    replace f2:=gb_cell f2
    replace f3:=gb_cell f3
    replace f4:=gb_cell f4
    replace f5:=gb_cell f5
    replace f7:=gb_cell f7
    replace fW:=gb_cell fW
    replace fN_0:=gb_cell fN_0
    replace fN_1:=gb_cell fN_1
    replace fN_2:=gb_cell fN_2
    replace fN_3:=gb_cell fN_3
    replace fN_4:=gb_cell fN_4
    replace fN_5:=gb_cell fN_5
    replace fN_6:=gb_cell fN_6
    replace fN_7:=gb_cell fN_7
    replace fN_8:=gb_cell fN_8
    replace fN_9:=gb_cell fN_9
    replace fN_10:=gb_cell fN_10
    have hcr:∀p:GB X,Calls Try.prog 96 #[.agg #[.int .i64 l.a0,.slice A1 l.l1.length c1,.slice A2 l.l2.length c2,.slice A3 l.l3.length c3,.slice A4 l.l4.length c4,.slice A5 l.l5.length c5],.agg (lit11 x),.slice none 0 0] p.W fun e w'=>e= .returned (.bool rt)∧∃q:GB X,w'=q.W:=by
     intro p
     rw [hrt]
     refine(L_right.calls ⟨A1,c1,A2,c2,A3,c3,A4,c4,A5,c5⟩ l x none 0 [] _ (HR.out.below (below_step H1.out.bel p.bel)) HV.out HN.out (Kd.C_nil _ _) (by simp) (by simp)).mono ?_
     rintro e w' ⟨rfl,hb⟩
     exact⟨rfl,⟨⟨w',below_step p.bel hb⟩,rfl⟩⟩
    have HCR:=Aside0.mk hcr
    have HRF:=Aside0.mk (show rt=false→ret (pre++ [x])=ret pre from fun e=>by rw [hret];show List.filter _ _=List.filter _ _;rw [List.filter_append,List.filter_cons_of_neg (by rw [←hrt,e];simp),List.filter_nil,List.append_nil])
    have HRTT:=Aside0.mk (show rt=true→ret (pre++ [x])=ret pre++ [x]from fun e=>by rw [hret];show List.filter _ _=List.filter _ _++ [x];rw [List.filter_append,List.filter_cons_of_pos (by rw [←hrt,e]),List.filter_nil])
    have hlen:(ret pre).length≤2000:=by
     rw [hret]
     refine Nat.le_trans (List.length_filter_le _ _) (Nat.le_trans ?_ (enumP_len HFT.out []))
     have:=hpre.length_le
     simp at this
     omega
    have HLEN:=Aside0.mk hlen
    clear hlen
    clear h1 ho b8 h8 hd8 hn8 hpre hl7 hc7 hrt hcr hret
    refine wpIn_block (wpIn_seq_k fun K hK=> ?_)
    cases rt with
    |false=>
     refine quiet_round_lit (by kernel_rfl) (by kernel_rfl) (by rfl) (fun ⟨_,_,h⟩=>h) ?_
     repeat(go_big_quiet_step (exact HCR.out _))
     refine wpQuiet_nil ?_
     rintro _ ⟨q,rfl⟩
     refine hK _ _ ?_
     clear hK K
     refine wpIn_cond_false rfl (wpIn_skip ?_)
     exact⟨fun k hk hlt=>q.bel.block k hlt,_,by rw [HRF.out rfl];exact H1.out.turn hT0 hg2 hg7 hgW hgM HO.out (Turn.of_below q.bel)⟩
    |true=>
     have hgo:∀(u24 u25 u26 u27 u28 u29 u30 u31 u32 u33 u34 u35 u36 u37 u38 u39 u40 u41 u42 u43 u44 u45 u46 u47 u48 u49:Value) (q:GB X),K {tmps:=List.toArray (.agg #[.int .i64 l.a0,.slice A1 l.l1.length c1,.slice A2 l.l2.length c2,.slice A3 l.l3.length c3,.slice A4 l.l4.length c4,.slice A5 l.l5.length c5]:: .func (.func F) #[] lb:: .pointer (some ⟨g2,0,none⟩)::undef:: .pointer none:: .int .i64 0:: .int .i64 l.fault:: .pointer (some ⟨g7,0,none⟩):: .pointer (some ⟨g8,0,none⟩):: .agg #[.int .i64 l.a0,.slice A1 l.l1.length c1,.slice A2 l.l2.length c2,.slice A3 l.l3.length c3,.slice A4 l.l4.length c4,.slice A5 l.l5.length c5]:: .int .i64 l.fault:: .int .i64 l.fault:: .bool false::undef:: .func (.func F) #[] lb:: .bool true:: .bool false:: .agg #[.int .i64 l.a0,.slice A1 l.l1.length c1,.slice A2 l.l2.length c2,.slice A3 l.l3.length c3,.slice A4 l.l4.length c4,.slice A5 l.l5.length c5]:: .map (some gM):: .agg #[.int .i64 l.a0,.slice A1 l.l1.length c1,.slice A2 l.l2.length c2,.slice A3 l.l3.length c3,.slice A4 l.l4.length c4,.slice A5 l.l5.length c5,.slice none 0 0,.map (some gM)]:: .pointer (some ⟨gW,0,none⟩):: .agg #[.int .i64 l.a0,.slice A1 l.l1.length c1,.slice A2 l.l2.length c2,.slice A3 l.l3.length c3,.slice A4 l.l4.length c4,.slice A5 l.l5.length c5]:: .func (.func 133) #[] #[.pointer (some ⟨gT,0,none⟩)]:: .agg (lit11 x)::u24::u25::u26::u27::u28::u29::u30::u31::u32::u33::u34::u35::u36::u37::u38::u39::u40::u41::u42::u43::u44::u45::u46::u47::u48::u49:: .bool true::undef::undef::undef::undef::undef::undef::undef::undef::undef::undef::undef::undef::undef::undef::undef::undef::undef:: []),defers:= []} q.W:=by
      intro u24 u25 u26 u27 u28 u29 u30 u31 u32 u33 u34 u35 u36 u37 u38 u39 u40 u41 u42 u43 u44 u45 u46 u47 u48 u49 q
      refine hK _ _ ?_
      clear hK K
      refine wpIn_cond_true rfl ?_
      have hbd:Below X.heap.size X q.W.drew:=below_drew1 q.bel
      have HBD:=Aside0.mk hbd
      have H2:=Aside0.mk (H1.out.turn hT0 hg2 hg7 hgW hgM HO.out (Turn.of_below hbd))
      have BD8:=Aside0.mk (blk_below B8.out hbd)
      have BD7:=Aside0.mk H2.out.b7
      have BDW:=Aside0.mk H2.out.bW
      clear hbd f0 f1 f2 f3 f4 f5 f7 fW fN_0 fN_1 fN_2 fN_3 fN_4 fN_5 fN_6 fN_7 fN_8 fN_9 fN_10
      obtain⟨tv,htv⟩:∃tv,tv=Value.slice A7 (ret pre).length c7:=⟨_,rfl⟩
      rw [←htv]at H2 BDW
      have HTVE:=Aside0.mk htv
      clear htv
      refine last_round (S:=fun w'=>w'.cell? ⟨g7,0,none⟩=some (.pointer (some ⟨gW,0,none⟩))∧w'.cell? ⟨gW,6,none⟩=some tv∧w'.cell? ⟨g8,0,none⟩=some (.int .i64 (rd x 0))∧w'.cell? ⟨g8,1,none⟩=some (.int .i64 (rd x 1))∧w'.cell? ⟨g8,2,none⟩=some (.int .i64 (rd x 2))∧w'.cell? ⟨g8,3,none⟩=some (.int .i64 (rd x 3))∧w'.cell? ⟨g8,4,none⟩=some (.int .i64 (rd x 4))∧w'.cell? ⟨g8,5,none⟩=some (.int .i64 (rd x 5))∧w'.cell? ⟨g8,6,none⟩=some (.int .i64 (rd x 6))∧w'.cell? ⟨g8,7,none⟩=some (.int .i64 (rd x 7))∧w'.cell? ⟨g8,8,none⟩=some (.int .i64 (rd x 8))∧w'.cell? ⟨g8,9,none⟩=some (.int .i64 (rd x 9))∧w'.cell? ⟨g8,10,none⟩=some (.int .i64 (rd x 10))) (ds:= [10]) #[false,false,false,false,false,false,false,false,false,false,false] (by kernel_rfl) (by rfl) (fun ⟨_,_,h⟩=>h) rfl rfl ⟨(blk_cell BD7.out 0).trans rfl,(blk_cell BDW.out 6).trans rfl,(blk_cell BD8.out 0).trans rfl,(blk_cell BD8.out 1).trans rfl,(blk_cell BD8.out 2).trans rfl,(blk_cell BD8.out 3).trans rfl,(blk_cell BD8.out 4).trans rfl,(blk_cell BD8.out 5).trans rfl,(blk_cell BD8.out 6).trans rfl,(blk_cell BD8.out 7).trans rfl,(blk_cell BD8.out 8).trans rfl,(blk_cell BD8.out 9).trans rfl,(blk_cell BD8.out 10).trans rfl⟩ (fun hHeld=> ?_)
      generalize q.W.drew=Wd at HBD H2 BD7 BDW BD8 hHeld ⊢
      refine take_ (i:=0) (N:=some 51) (v:= ?_) (a':= ?_) #[true,false,false,false,false,false,false,false,false,false,false] rfl rfl (by kernel_rfl) (fun _ _ _ h=>h) (Or.inl ⟨by rfl,?_⟩) hHeld ?_ ?_
      rotate_left
      ·rintro w' ⟨s0,s1,s2,s3,s4,s5,s6,s7,s8,s9,s10,s11,s12⟩;go_simp;with_reducible rfl
      rotate_left
      ·simp only [Act.put,List.setIfInBounds_toArray,List.set_cons_zero,List.set_cons_succ];rfl
      refine take_ (i:=1) (N:=some 52) (v:= ?_) (a':= ?_) #[true,true,false,false,false,false,false,false,false,false,false] rfl rfl (by kernel_rfl) (fun _ _ _ h=>h) (Or.inl ⟨by rfl,?_⟩) hHeld ?_ ?_
      rotate_left
      ·rintro w' ⟨s0,s1,s2,s3,s4,s5,s6,s7,s8,s9,s10,s11,s12⟩;go_simp;with_reducible rfl
      rotate_left
      ·simp only [Act.put,List.setIfInBounds_toArray,List.set_cons_zero,List.set_cons_succ];rfl
      refine pure_ (i:=2) (N:=some 53) (v:= ?_) (a':= ?_) #[true,true,true,false,false,false,false,false,false,false,false] rfl rfl (by kernel_rfl) (fun _ _ _ h=>h) (Or.inl ⟨by rfl,?_⟩) ?_ ?_
      rotate_left
      ·intro w';go_simp;with_reducible rfl
      rotate_left
      ·simp only [Act.put,List.setIfInBounds_toArray,List.set_cons_zero,List.set_cons_succ];rfl
      refine pure_ (i:=3) (N:=some 54) (v:= ?_) (a':= ?_) #[true,true,true,true,false,false,false,false,false,false,false] rfl rfl (by kernel_rfl) (fun _ _ _ h=>h) (Or.inl ⟨by rfl,?_⟩) ?_ ?_
      rotate_left
      ·intro w';go_simp;with_reducible rfl
      rotate_left
      ·simp only [Act.put,List.setIfInBounds_toArray,List.set_cons_zero,List.set_cons_succ];rfl
      refine take_ (i:=4) (N:=some 55) (v:= ?_) (a':= ?_) #[true,true,true,true,true,false,false,false,false,false,false] rfl rfl (by kernel_rfl) (fun _ _ _ h=>h) (Or.inl ⟨by rfl,?_⟩) hHeld ?_ ?_
      rotate_left
      ·rintro w' ⟨s0,s1,s2,s3,s4,s5,s6,s7,s8,s9,s10,s11,s12⟩;go_simp;with_reducible rfl
      rotate_left
      ·simp only [Act.put,List.setIfInBounds_toArray,List.set_cons_zero,List.set_cons_succ];rfl
      refine take_ (i:=5) (N:=some 56) (v:= ?_) (a':= ?_) #[true,true,true,true,true,true,false,false,false,false,false] rfl rfl (by kernel_rfl) (fun _ _ _ h=>h) (Or.inl ⟨by rfl,?_⟩) hHeld ?_ ?_
      rotate_left
      ·rintro w' ⟨s0,s1,s2,s3,s4,s5,s6,s7,s8,s9,s10,s11,s12⟩;go_simp;with_reducible rfl
      rotate_left
      ·simp only [Act.put,List.setIfInBounds_toArray,List.set_cons_zero,List.set_cons_succ];rfl
      refine one_ (i:=6) (N:=some 57) #[true,true,true,true,true,true,true,false,false,false,false] rfl rfl (by kernel_rfl) (by decide) (fun K hK=> ?_)
      refine value_ (w1:= ?_) (v:= ?_) (by rfl) rfl ?_ ?_
      rotate_left 2
      ·go_simp
       constructor
       ·rfl
       ·rfl
      have BA7:=blk_alloc BD7.out (.cells #[.int .i64 (rd x 0),.int .i64 (rd x 1),.int .i64 (rd x 2),.int .i64 (rd x 3),.int .i64 (rd x 4),.int .i64 (rd x 5),.int .i64 (rd x 6),.int .i64 (rd x 7),.int .i64 (rd x 8),.int .i64 (rd x 9),.int .i64 (rd x 10)] 147 (0,0))
      have BAW:=blk_alloc BDW.out (.cells #[.int .i64 (rd x 0),.int .i64 (rd x 1),.int .i64 (rd x 2),.int .i64 (rd x 3),.int .i64 (rd x 4),.int .i64 (rd x 5),.int .i64 (rd x 6),.int .i64 (rd x 7),.int .i64 (rd x 8),.int .i64 (rd x 9),.int .i64 (rd x 10)] 147 (0,0))
      have BA8:=blk_alloc BD8.out (.cells #[.int .i64 (rd x 0),.int .i64 (rd x 1),.int .i64 (rd x 2),.int .i64 (rd x 3),.int .i64 (rd x 4),.int .i64 (rd x 5),.int .i64 (rd x 6),.int .i64 (rd x 7),.int .i64 (rd x 8),.int .i64 (rd x 9),.int .i64 (rd x 10)] 147 (0,0))
      refine hK.out _ _ ⟨(blk_cell BA7 0).trans rfl,(blk_cell BAW 6).trans rfl,(blk_cell BA8 0).trans rfl,(blk_cell BA8 1).trans rfl,(blk_cell BA8 2).trans rfl,(blk_cell BA8 3).trans rfl,(blk_cell BA8 4).trans rfl,(blk_cell BA8 5).trans rfl,(blk_cell BA8 6).trans rfl,(blk_cell BA8 7).trans rfl,(blk_cell BA8 8).trans rfl,(blk_cell BA8 9).trans rfl,(blk_cell BA8 10).trans rfl⟩ (fun hHeld=> ?_)
      clear hK K BA7 BAW BA8
      refine norm_ (a':= ?_) ?_ ?_
      rotate_left
      ·show Act.put _ (some 57) _=_;simp only [Act.put,List.setIfInBounds_toArray,List.set_cons_zero,List.set_cons_succ];rfl
      refine one_ (i:=7) (N:=some 58) #[true,true,true,true,true,true,true,true,false,false,false] rfl rfl (by kernel_rfl) (by decide) (fun K hK=> ?_)
      refine Kd.R_append_step kN (w0:=w) w.heap.size (by rfl) (.tmp 55) (.tmp 57) 168 147 (.agg #[.int .i64 0,.int .i64 0,.int .i64 0,.int .i64 0,.int .i64 0,.int .i64 0,.int .i64 0,.int .i64 0,.int .i64 0,.int .i64 0,.int .i64 0]) 88 rfl Try.underlying168 info147 rfl (by decide) (by omega) tv (ret pre) x [.int .i64 (rd x 0),.int .i64 (rd x 1),.int .i64 (rd x 2),.int .i64 (rd x 3),.int .i64 (rd x 4),.int .i64 (rd x 5),.int .i64 (rd x 6),.int .i64 (rd x 7),.int .i64 (rd x 8),.int .i64 (rd x 9),.int .i64 (rd x 10)] (fun k=>¬Own k) (fun _=>False) rfl rfl ?aP (fun _ hk=>hk.elim) ?aF H2.out.row H2.out.bel H2.out.bel.size ?aL ?_
      (case aP=>exact⟨HN.out.len,by have h_:=nums_lit HN.out.len;exact(congrArg Array.toList h_).symm⟩)
      (case aF=>exact fun k hk hh=>by have:=H2.out.lt k hh;omega)
      (case aL=>have:=HLEN.out;omega)
      intro v7 w7 ho hb hg hat
      have n7:=H2.out.row.1
      have BG7:=blk_grown BD7.out hg (Kd.R_ne H2.out.row BD7.out (by decide))
      have BGW:=blk_grown BDW.out hg (Kd.R_ne H2.out.row BDW.out (by decide))
      have hr8:some g8≠tv.ownBlock:=fun e=>HD8.out g8 (by rw [←HTVE.out];exact e.symm) rfl
      have BG8:=blk_grown BD8.out hg hr8
      have BG2:=blk_grown H2.out.b2 hg (Kd.R_ne H2.out.row H2.out.b2 (by decide))
      have BGM:w7.heap[gM]? =some (.map #[] 0):=(hg.block gM (Array.getElem?_eq_some_iff.1 H2.out.bM).1 (fun e=>by obtain⟨cells,hc⟩:=own_typed H2.out.row.2.choose_spec.1 gM e.symm;rw [H2.out.bM]at hc;cases hc)).trans H2.out.bM
      refine hK.out _ _ ⟨(blk_cell BG7 0).trans rfl,(blk_cell BGW 6).trans rfl,(blk_cell BG8 0).trans rfl,(blk_cell BG8 1).trans rfl,(blk_cell BG8 2).trans rfl,(blk_cell BG8 3).trans rfl,(blk_cell BG8 4).trans rfl,(blk_cell BG8 5).trans rfl,(blk_cell BG8 6).trans rfl,(blk_cell BG8 7).trans rfl,(blk_cell BG8 8).trans rfl,(blk_cell BG8 9).trans rfl,(blk_cell BG8 10).trans rfl⟩ (fun hHeld=> ?_)
      clear hK K
      refine norm_ (a':= ?_) ?_ ?_
      rotate_left
      ·show Act.put _ (some 58) _=_;simp only [Act.put,List.setIfInBounds_toArray,List.set_cons_zero,List.set_cons_succ];rfl
      refine pure_ (i:=8) (N:=some 59) (v:= ?_) (a':= ?_) #[true,true,true,true,true,true,true,true,true,false,false] rfl rfl (by kernel_rfl) (fun _ _ _ h=>h) (Or.inl ⟨by rfl,?_⟩) ?_ ?_
      rotate_left
      ·intro w';go_simp;with_reducible rfl
      rotate_left
      ·simp only [Act.put,List.setIfInBounds_toArray,List.set_cons_zero,List.set_cons_succ];rfl
      refine pure_ (i:=9) (N:=some 60) (v:= ?_) (a':= ?_) #[true,true,true,true,true,true,true,true,true,true,false] rfl rfl (by kernel_rfl) (fun _ _ _ h=>h) (Or.inl ⟨by rfl,?_⟩) ?_ ?_
      rotate_left
      ·intro w';go_simp;with_reducible rfl
      rotate_left
      ·simp only [Act.put,List.setIfInBounds_toArray,List.set_cons_zero,List.set_cons_succ];rfl
      obtain⟨Ao7,co7,hv7⟩:=Kd.R_slice ho
      rw [List.length_append,List.length_singleton]at hv7
      have HV7:=Aside0.mk hv7
      subst hv7
      refine last_ (i:=10) (N:=none) #[true,true,true,true,true,true,true,true,true,true,true] rfl rfl (by kernel_rfl) (by decide) (fun K hK=> ?_)
      have hs6:w7.cell? ⟨gW,6,none⟩=some tv:=(blk_cell BGW 6).trans rfl
      have hfs6:=blk_frozen BGW 6
      refine skip_ (w1:= ?_) (by rfl) rfl ?_ ?_
      rotate_left
      ·go_simp
       rfl
      refine hK.out _ _ ?_
      clear hK K
      refine done_ (by kernel_rfl) ?_
      have hXW:=HBD.out.size
      have hgX:w7.heap.size≥Wd.heap.size:=hg.size
      have hm2:=H1.out.size
      refine⟨fun k hk hlt=> ?_,_,below_set hb gWge,?_,fun k hk=> ?_,blk_far BG2 (show g2≠gW from fun e=> ?_) _,blk_far BG7 (show g7≠gW from fun e=> ?_) _,blk_set BGW 6 _,?_,?_⟩
      ·have hne:some k≠tv.ownBlock:=fun e=>n7 k e.symm hk
       refine(Below.heap_setCell w7 _ _ k (fun hh=> ?_)).trans ((hg.block k (by omega) hne).trans (HBD.out.block k hlt))
       have h1:=HO.out k hk
       have h2:k=gW:=hh
       omega
      ·rw [World.size_setCell];omega
      ·rw [World.size_setCell];have:=H2.out.lt k hk;omega
      ·rw [e]at BG2;have h_:=BG2.symm.trans BGW;exact absurd h_ (by simp)
      ·rw [e]at BG7;have h_:=BG7.symm.trans BGW;exact absurd h_ (by simp)
      ·exact(Below.heap_setCell w7 _ _ gM (fun hh=>by have h2:gM=gW:=hh;rw [h2]at BGM;rw [BGM]at BGW;cases BGW)).trans BGM
      ·rw [HRTT.out rfl]
       exact Kd.R_set ho BGW (by decide) 6 _
     obtain⟨ts,hts⟩:∃ts,ts=ret pre:=⟨_,rfl⟩
     have HRT2:=Aside0.mk (HRTT.out rfl)
     rw [←hts]at HLEN H1 HL7 HC7 fW HTV HRT2
     have HTS:=Aside0.mk hts
     clear hts
     cases ts with
     |nil=>
      simp only [List.length_nil]at fW
      refine quiet_round_lit (by kernel_rfl) (by kernel_rfl) (by rfl) (fun ⟨_,_,h⟩=>h) ?_
      repeat(go_big_quiet_step (exact HCR.out _))
      refine wpQuiet_nil ?_
      rintro _ ⟨q,rfl⟩
      exact hgo _ _ _ _ _ _ _ _ _ _ _ _ _ _ _ _ _ _ _ _ _ _ _ _ _ _ q
     |cons t0 tt=>
      obtain⟨n7,hn7⟩:∃n7,n7=(t0::tt).length:=⟨_,rfl⟩
      obtain⟨ad7,e7,hy,hy0,hy1,hy2,hy3,hy4,hy5,hy6,hy7,hy8,hy9,hy10⟩:=at_N HC7.out ((n7:Int)-1) (by rw [hn7];simp) (by rw [hn7];omega)
      obtain⟨y,hyy⟩:∃y,y=rd_N (t0::tt) ((n7:Int)-1):=⟨_,rfl⟩
      rw [←hyy]at hy hy0 hy1 hy2 hy3 hy4 hy5 hy6 hy7 hy8 hy9 hy10
      rw [←hn7]at fW
      subst e7
      have htn:((n7:Int)-1).toNat=n7-1:=by omega
      rw [htn]at hy0 hy1 hy2 hy3 hy4 hy5 hy6 hy7 hy8 hy9 hy10
      clear htn
      have hn2:(n7:Int)≤2000:=by have:=HLEN.out;omega
      have hn1:1≤(n7:Int):=by rw [hn7,List.length_cons];omega
      have HN7:=Aside0.mk hn7
      have HYY:=Aside0.mk hyy
      have hym:y∈ret pre:=by
       rw [←HTS.out,hyy]
       unfold rd_N
       have hlt:((n7:Int)-1).toNat <(t0::tt).length:=by omega
       rw [List.getD_eq_getElem?_getD,List.getElem?_eq_getElem hlt]
       exact List.getElem_mem hlt
      have hyp:y∈pre:=by rw [HRET.out]at hym;exact(List.mem_filter.1 hym).1
      have hyn:Num y:=HV.out.num (HPRE.out.subset (by simp [hyp]))
      have hyx:y≠x:=by
       rintro rfl
       have hnd:=HPRE.out.sublist.nodup (enumP_nodup l.ranges [])
       rw [List.nodup_append]at hnd
       exact hnd.2.2 y hyp y (by simp) rfl
      have hneq:∀p:GB X,(Op.equalIn 10000 147 (.agg #[.int .i64 (rd y 0),.int .i64 (rd y 1),.int .i64 (rd y 2),.int .i64 (rd y 3),.int .i64 (rd y 4),.int .i64 (rd y 5),.int .i64 (rd y 6),.int .i64 (rd y 7),.int .i64 (rd y 8),.int .i64 (rd y 9),.int .i64 (rd y 10)]) (.agg #[.int .i64 (rd x 0),.int .i64 (rd x 1),.int .i64 (rd x 2),.int .i64 (rd x 3),.int .i64 (rd x 4),.int .i64 (rd x 5),.int .i64 (rd x 6),.int .i64 (rd x 7),.int .i64 (rd x 8),.int .i64 (rd x 9),.int .i64 (rd x 10)])).run Try.prog p.W= .ok false p.W:=fun p=>neq_run HN.out hyn hyx p.W
      have HYL:=Aside0.mk hy
      clear hn7 hyy hy hym hyp hyx hyn
      have hnz:((n7:Int)==0)=false:=by rw [beq_eq_false_iff_ne];omega
      replace hy0:=gb_cell hy0
      replace hy1:=gb_cell hy1
      replace hy2:=gb_cell hy2
      replace hy3:=gb_cell hy3
      replace hy4:=gb_cell hy4
      replace hy5:=gb_cell hy5
      replace hy6:=gb_cell hy6
      replace hy7:=gb_cell hy7
      replace hy8:=gb_cell hy8
      replace hy9:=gb_cell hy9
      replace hy10:=gb_cell hy10
      have hwr:IntKind.i64.wrap ((n7:Int)-1)=n7-1:=IntWalk.i64_in _ (by omega)
      refine quiet_round_lit (by kernel_rfl) (by kernel_rfl) (by rfl) (fun ⟨_,_,h⟩=>h) ?_
      repeat(go_big_quiet_step (exact HCR.out _))
      refine wpQuiet_nil ?_
      rintro _ ⟨q,rfl⟩
      exact hgo _ _ _ _ _ _ _ _ _ _ _ _ _ _ _ _ _ _ _ _ _ _ _ _ _ _ q
   case hdone=>
    rintro Own D X ho hD hoD ⟨tv,hI⟩ hXD
    simp only [Exit.inBlock,Exit.then]
    have H1:=Aside0.mk hI
    have HD:=Aside0.mk hXD
    obtain⟨A7,c7,htv,hl7,hc7⟩:=Kd.R_reads hI.row
    have hrt:ret (enumP l.ranges [])=l.truths:=by rw [hret];rfl
    rw [hrt]at htv hl7 hc7 H1
    have HL7:=Aside0.mk hl7
    have HC7:=Aside0.mk hc7
    subst htv
    have f7:X.cell? ⟨g7,0,none⟩=some (.pointer (some ⟨gW,0,none⟩)):=(blk_cell H1.out.b7 0).trans rfl
    have fW:X.cell? ⟨gW,6,none⟩=some (.slice A7 l.truths.length c7):=(blk_cell H1.out.bW 6).trans rfl
    clear hI hXD hl7 hc7 hret hrt
    by_cases hz:l.truths= []
    ·have hzl:l.truths.length=0:=by rw [hz];rfl
     rw [hzl]at fW
     have he:l.err true=11:=by unfold SL.err;rw [if_neg (by rw [HFT.out];simp),if_neg (by simp),if_pos hz]
     have HE:=Aside0.mk he
     clear hz hzl he
     go_wp2
     refine mark_ret (D:=D) (v:= .tuple #[.pointer none,.int .i64 11]) HD.out (by exact results_tmp2 (t:=4) (u:=5) rfl _ _ _) ?_
     refine⟨below_put H1.out.bel (by omega) _,_,?_,fun _=>rfl,fun h=> ?_⟩
     ·rw [HE.out]
     ·rw [HE.out]at h;cases h
    ·have hzl:((l.truths.length:Int)==0)=false:=by rw [beq_eq_false_iff_ne];intro h;exact hz (List.length_eq_zero_iff.1 (by omega))
     have he:l.err true=0:=by unfold SL.err;rw [if_neg (by rw [HFT.out];simp),if_neg (by simp),if_neg hz]
     have HE:=Aside0.mk he
     clear hz he
     go_wp2
     refine mark_ret (D:=D) (v:= .tuple #[.pointer (some ⟨gW,0,none⟩),.int .i64 0]) HD.out (by exact results_tmp2 (t:=4) (u:=5) rfl _ _ _) ?_
     have hp:∀k,k≠D→(X.putObj D (.deferred none)).heap[k]? =X.heap[k]? :=fun k hk=>World.putObj_heap_other hk
     have hwD:w.heap.size≤D:=by omega
     refine⟨below_put H1.out.bel hwD _,_,?_,fun h=>absurd HE.out h,fun _=>⟨gW,gM,A7,c7,rfl,⟨(hp _ (by omega)).trans H1.out.bW,?_,HL7.out,HR.out.below (below_put H1.out.bel hwD _)⟩,gWge,gMge,(hp _ (by omega)).trans H1.out.bM⟩⟩
     ·rw [HE.out]
     ·refine C_block (fun _ _ _ _ h=>h) HC7.out (fun a e=>hp _ (fun hh=> ?_))
      subst e
      exact H1.out.row.1 a.block rfl (hh▸hoD)
   case hstop=>exact fun Own D pre X ho hD hoD hpre hI hXD=>hI.elim
  ·obtain rfl:b=false:=by simpa using hb
   replace HF:=Aside0.mk (HF.out hft)
   have HFT:=Aside0.mk hft
   have he:l.err false=2:=by unfold SL.err;rw [if_neg (by rw [HFT.out];simp),if_pos rfl]
   have HE:=Aside0.mk he
   have hfz:(l.fault !=0)=false:=by rw [hft];rfl
   clear hft he
   go_wp2_with (first|((with_reducible refine gate_dst (N:=2) rfl ?_);refine box_event ?hg (N:=2) ?hd (cs:=#[.int .i64 l.a0,.slice A1 l.l1.length c1,.slice A2 l.l2.length c2,.slice A3 l.l3.length c3,.slice A4 l.l4.length c4,.slice A5 l.l5.length c5]) (t:=39) ?hr ?_;(case hd=>rfl);(case hg=>rfl);(case hr=>first|(go_simp;done)|(go_simp;rfl));intro g2 hg_ w2 hbx_ hb_;have BK2:=Aside0.mk hbx_;have g2ge:w.heap.size≤g2:=(by have:=below_size HB.out;omega);have g2GE:=Aside0.mk g2ge;clear g2ge;have HBn:=Aside0.mk (below_step HB.out hb_);clear HB hg_ hb_ hbx_;have HB:=HBn;clear HBn;have f0:w2.cell? ⟨g2,0,none⟩=some (.int .i64 l.a0):=(blk_cell BK2.out 0).trans rfl;have f1:w2.cell? ⟨g2,1,none⟩=some (.slice A1 l.l1.length c1):=(blk_cell BK2.out 1).trans rfl;have f2:w2.cell? ⟨g2,2,none⟩=some (.slice A2 l.l2.length c2):=(blk_cell BK2.out 2).trans rfl;have f3:w2.cell? ⟨g2,3,none⟩=some (.slice A3 l.l3.length c3):=(blk_cell BK2.out 3).trans rfl;have f4:w2.cell? ⟨g2,4,none⟩=some (.slice A4 l.l4.length c4):=(blk_cell BK2.out 4).trans rfl;have f5:w2.cell? ⟨g2,5,none⟩=some (.slice A5 l.l5.length c5):=(blk_cell BK2.out 5).trans rfl)|(go_at_call 56;go_must (refine(CheckLoft.call ⟨A1,c1,A2,c2,A3,c3,A4,c4,A5,c5⟩ l _ (HR.out.below HB.out)).mono ?_;clear f0 f1 f2 f3 f4 f5;rintro e wE ⟨rfl,hbe⟩;replace BK2:=Aside0.mk (blk_below BK2.out hbe);replace HB:=Aside0.mk (below_step HB.out hbe);clear hbe))|(refine(HF.out _ HB.out).mono ?_;go_must (rintro e wF ⟨rfl,hbe⟩;replace BK2:=Aside0.mk (blk_below BK2.out hbe);replace HB:=Aside0.mk (below_step HB.out hbe);clear hbe;have f0:wF.cell? ⟨g2,0,none⟩=some (.int .i64 l.a0):=(blk_cell BK2.out 0).trans rfl;have f1:wF.cell? ⟨g2,1,none⟩=some (.slice A1 l.l1.length c1):=(blk_cell BK2.out 1).trans rfl;have f2:wF.cell? ⟨g2,2,none⟩=some (.slice A2 l.l2.length c2):=(blk_cell BK2.out 2).trans rfl;have f3:wF.cell? ⟨g2,3,none⟩=some (.slice A3 l.l3.length c3):=(blk_cell BK2.out 3).trans rfl;have f4:wF.cell? ⟨g2,4,none⟩=some (.slice A4 l.l4.length c4):=(blk_cell BK2.out 4).trans rfl;have f5:wF.cell? ⟨g2,5,none⟩=some (.slice A5 l.l5.length c5):=(blk_cell BK2.out 5).trans rfl)))
   refine plain_ret (v:= .tuple #[.pointer none,.int .i64 2]) (by exact results_tmp2 (t:=4) (u:=5) rfl _ _ _) ?_
   refine⟨HB.out,_,?_,fun _=>rfl,fun h=> ?_⟩
   ·rw [HE.out]
   ·rw [HE.out]at h;cases h
 ·have hfz:(l.fault !=0)=true:=by simpa using hft
  have he:l.err b=l.fault:=by unfold SL.err;rw [if_pos hft]
  have HE:=Aside0.mk he
  have HFT:=Aside0.mk hft
  clear hft he
  go_wp2_with (first|((with_reducible refine gate_dst (N:=2) rfl ?_);refine box_event ?hg (N:=2) ?hd (cs:=#[.int .i64 l.a0,.slice A1 l.l1.length c1,.slice A2 l.l2.length c2,.slice A3 l.l3.length c3,.slice A4 l.l4.length c4,.slice A5 l.l5.length c5]) (t:=39) ?hr ?_;(case hd=>rfl);(case hg=>rfl);(case hr=>first|(go_simp;done)|(go_simp;rfl));intro g2 hg_ w2 hbx_ hb_;have BK2:=Aside0.mk hbx_;have g2ge:w.heap.size≤g2:=(by have:=below_size HB.out;omega);have g2GE:=Aside0.mk g2ge;clear g2ge;have HBn:=Aside0.mk (below_step HB.out hb_);clear HB hg_ hb_ hbx_;have HB:=HBn;clear HBn;have f0:w2.cell? ⟨g2,0,none⟩=some (.int .i64 l.a0):=(blk_cell BK2.out 0).trans rfl;have f1:w2.cell? ⟨g2,1,none⟩=some (.slice A1 l.l1.length c1):=(blk_cell BK2.out 1).trans rfl;have f2:w2.cell? ⟨g2,2,none⟩=some (.slice A2 l.l2.length c2):=(blk_cell BK2.out 2).trans rfl;have f3:w2.cell? ⟨g2,3,none⟩=some (.slice A3 l.l3.length c3):=(blk_cell BK2.out 3).trans rfl;have f4:w2.cell? ⟨g2,4,none⟩=some (.slice A4 l.l4.length c4):=(blk_cell BK2.out 4).trans rfl;have f5:w2.cell? ⟨g2,5,none⟩=some (.slice A5 l.l5.length c5):=(blk_cell BK2.out 5).trans rfl)|(go_at_call 56;go_must (refine(CheckLoft.call ⟨A1,c1,A2,c2,A3,c3,A4,c4,A5,c5⟩ l _ (HR.out.below HB.out)).mono ?_;clear f0 f1 f2 f3 f4 f5;rintro e wE ⟨rfl,hbe⟩;replace BK2:=Aside0.mk (blk_below BK2.out hbe);replace HB:=Aside0.mk (below_step HB.out hbe);clear hbe))|(refine(HF.out _ HB.out).mono ?_;go_must (rintro e wF ⟨rfl,hbe⟩;replace BK2:=Aside0.mk (blk_below BK2.out hbe);replace HB:=Aside0.mk (below_step HB.out hbe);clear hbe;have f0:wF.cell? ⟨g2,0,none⟩=some (.int .i64 l.a0):=(blk_cell BK2.out 0).trans rfl;have f1:wF.cell? ⟨g2,1,none⟩=some (.slice A1 l.l1.length c1):=(blk_cell BK2.out 1).trans rfl;have f2:wF.cell? ⟨g2,2,none⟩=some (.slice A2 l.l2.length c2):=(blk_cell BK2.out 2).trans rfl;have f3:wF.cell? ⟨g2,3,none⟩=some (.slice A3 l.l3.length c3):=(blk_cell BK2.out 3).trans rfl;have f4:wF.cell? ⟨g2,4,none⟩=some (.slice A4 l.l4.length c4):=(blk_cell BK2.out 4).trans rfl;have f5:wF.cell? ⟨g2,5,none⟩=some (.slice A5 l.l5.length c5):=(blk_cell BK2.out 5).trans rfl)))
  refine plain_ret (v:= .tuple #[.pointer none,.int .i64 l.fault]) (by exact results_tmp2 (t:=4) (u:=5) rfl _ _ _) ?_
  refine⟨HB.out,_,?_,fun _=>rfl,fun h=> ?_⟩
  ·rw [HE.out]
  ·rw [HE.out]at h;exact absurd h HFT.out
end Go.Proofs.Ytjifalohjlihaaa.Q
end
section
namespace Go.Proofs.Ytjifalohjlihaaa.Q
set_option linter.unusedVariables false
open Go.BigFrame Go.RowKit Go.Shelf Go.Proofs.YtjifalohjlihaaaW.PrintWords Go.Proofs.YtjifalohjlihaaaW.PrintLast Go.Proofs.YtjifalohjlihaaaW.PrintMore
def bnd:List Int→Int×Int
 | []=>(0,0)
 |a::t=>t.foldl (fun r a=>(mn r.1 a,mx r.2 a)) (a,a)
theorem bnd_snoc (l:List Int) (a:Int) (h:l≠ []):bnd (l++ [a])=(mn (bnd l).1 a,mx (bnd l).2 a):=by
 cases l with
 |nil=>exact absurd rfl h
 |cons b t=>simp [bnd,List.foldl_append]
theorem bnd_one (a:Int):bnd [a]=(mn a a,mx a a):=by simp [bnd,mn,mx]
theorem wider_some (lo hi a:Int):shelf_Range_wider.f 3 lo hi a=some (mn lo a,mx hi a):=by
 unfold shelf_Range_wider.f
 rw [min2_some];rfl
structure Asks (F:Nat) (fq:List Int→Int→Int):Prop where
 run:∀(A:Option Addr) (c:Nat) (xs:List Int) (i:Int) (W:World),Kd.C (Kd.int .i64) W A xs.length xs→xs.length≤c→0≤i→i < xs.length→Calls Try.prog F #[.slice A xs.length c,.int .i64 i] W fun e w'=>e= .returned (.int .i64 (fq xs i))∧Below W.heap.size W w'
 enter:∀args w,(callFunc F args).run Try.prog w= .ok (.enter F args) w
set_option maxRecDepth 100000 in
set_option maxHeartbeats 6400000 in
theorem bounds.calls (F:Nat) (fq:List Int→Int→Int) (hq:Asks F fq) (x:SA) (l:SL) (gW gM:Nat) (A7:Option Addr) (c7:Nat) (cake shelf i:Int) (w:World) (hW:Work w x l gW gM A7 c7) (hf:l.fault=0)
  (k0:0≤cake) (k1:cake < l.l3.length) (s0:0≤shelf) (s1:shelf < l.l2.length) (i0:0≤i) (i1:i≤l.a0-(rd_T126 l.l3 cake).f0):
  Calls Try.prog 77 #[.agg #[.func (.func F) #[] #[]],.pointer (some ⟨gW,0,none⟩),.agg #[.int .i64 cake,.int .i64 shelf],.int .i64 i] w fun e w'=>e= .returned (.agg #[.int .i64 (bnd (l.truths.map fun n=>fq (l.left n cake shelf) i)).1,.int .i64 (bnd (l.truths.map fun n=>fq (l.left n cake shelf) i)).2])∧Below w.heap.size w w':=by
 obtain⟨A1,c1,A2,c2,A3,c3,A4,c4,A5,c5⟩:=x
 have hv:=valid_of hf
 have HQ:=Aside0.mk hq
 have HB:=Aside0.mk (Below.refl w.heap.size w)
 have HTR:=Aside0.mk hW.tr
 have HW:=Aside0.mk hW
 have HRD:=Aside0.mk hW.rd
 have BKW:=Aside0.mk hW.bW
 have H7:=Aside0.mk hW.h7
 have HV:=Aside0.mk hv
 have hlen:l.truths.length≤2000:=Nat.le_trans (List.length_filter_le _ _) (enumP_len hf [])
 have HF:=Aside0.mk hf
 obtain⟨fa,hfa⟩:∃fa:List Int→Int,fa=fun n=>fq (l.left n cake shelf) i:=⟨_,rfl⟩
 rw [←hfa]
 have HFA:=Aside0.mk hfa
 clear hq hW hf hv hfa
 go_enter Try.func77,Try.ntmps77
 go_upto_region 1 with(first|((with_reducible refine gate_dst (N:=4) rfl ?_);refine box_event ?hg (N:=4) ?hd (cs:=#[.func (.func F) #[] #[]]) (t:=131) ?hr ?_;(case hd=>rfl);(case hg=>rfl);(case hr=>first|(go_simp;done)|(go_simp;rfl));intro g4 hg_ w4 hbx_ hb_;have BK4:=Aside0.mk hbx_;have g4ge:w.heap.size≤g4:=(by have:=below_size HB.out;omega);have g4GE:=Aside0.mk g4ge;clear g4ge;have HBn:=Aside0.mk (below_step HB.out hb_);have z_:=Aside0.mk (blk_below BKW.out hb_);clear BKW;have BKW:=z_;clear z_;clear HB hg_ hb_ hbx_;have HB:=HBn;clear HBn)|((with_reducible refine gate_dst (N:=6) rfl ?_);refine box_event ?hg (N:=6) ?hd (cs:=#[.int .i64 cake,.int .i64 shelf]) (t:=134) ?hr ?_;(case hd=>rfl);(case hg=>rfl);(case hr=>first|(go_simp;done)|(go_simp;rfl));intro g6 hg_ w6 hbx_ hb_;have BK6:=Aside0.mk hbx_;have g6ge:w.heap.size≤g6:=(by have:=below_size HB.out;omega);have g6GE:=Aside0.mk g6ge;clear g6ge;have HBn:=Aside0.mk (below_step HB.out hb_);have z_:=Aside0.mk (blk_below BK4.out hb_);clear BK4;have BK4:=z_;clear z_;have z_:=Aside0.mk (blk_below BKW.out hb_);clear BKW;have BKW:=z_;clear z_;clear HB hg_ hb_ hbx_;have HB:=HBn;clear HBn))
 obtain⟨g8,hg_⟩:∃g_,g_=w6.heap.size:=⟨_,rfl⟩
 obtain⟨w8,hw_⟩:∃w_,w_=World.alloc w6 (Obj.cells #[.int .i64 0,.int .i64 0] 56):=⟨_,rfl⟩
 have hb_:Below w6.heap.size w6 w8:=by rw [hw_];exact below_alloc (Below.refl _ _) _
 have BK8:Aside0 (w8.heap[g8]? =some (Obj.cells #[.int .i64 0,.int .i64 0] 56)):=⟨by rw [hw_,hg_];exact blk_new _ _⟩
 have g8GE:Aside0 (w.heap.size≤g8):=⟨by have:=below_size HB.out;rw [hg_];exact this⟩
 replace BK4:=Aside0.mk (blk_below BK4.out hb_)
 replace BKW:=Aside0.mk (blk_below BKW.out hb_)
 replace BK6:=Aside0.mk (blk_below BK6.out hb_)
 replace HB:=Aside0.mk (below_step HB.out hb_)
 rw [←hw_,←hg_]
 clear hw_ hg_ hb_
 replace HTR:=Aside0.mk (Kd.C_below HTR.out HB.out)
 replace HRD:=Aside0.mk (HRD.out.below HB.out)
 have fT:w8.cell? ⟨gW,6,none⟩=some (.slice A7 l.truths.length c7):=(blk_cell BKW.out 6).trans rfl
 go_wp2_with fail
 clear fT
 have hbl:∀k:Nat,k < l.truths.length→∃n,rd_N l.truths k=n∧Num n∧(l.truths.take (k+1)).map fa=(l.truths.take k).map fa++ [fa n]:=by
  intro k hk
  have hm:rd_N l.truths k=l.truths[k]:=by unfold rd_N;rw [Int.toNat_natCast,List.getD_eq_getElem?_getD,List.getElem?_eq_getElem hk];rfl
  refine⟨l.truths[k],hm,HV.out.num (List.mem_filter.1 (List.getElem_mem hk)).1,?_⟩
  rw [List.take_add_one,List.map_append,List.getElem?_eq_getElem hk];rfl
 have HBL:=Aside0.mk hbl
 clear hbl
 go_loopw [17] (fun v17 wq=>∃k:Nat,v17= .int .i64 (k:Int)∧(k:Int)≤l.truths.length∧Aside0 (wq.heap[g8]? =some (.cells #[.int .i64 (bnd ((l.truths.take k).map fa)).1,.int .i64 (bnd ((l.truths.take k).map fa)).2] 56 (0,0)))∧Aside0 (wq.heap[g4]? =some (.cells #[.func (.func F) #[] #[]] 131 (0,0)))∧Aside0 (wq.heap[g6]? =some (.cells #[.int .i64 cake,.int .i64 shelf] 134 (0,0)))∧Aside0 (Below w.heap.size w wq)) (fun v17 _=>(l.truths.length-intOf v17).toNat)
 case atStart=>exact⟨0,rfl,by omega,BK8,BK4,BK6,HB⟩
 case round=>
  clear BK8 BK4 BK6 BKW HTR HRD HB
  obtain⟨k,rfl,hk,BK8,BK4,BK6,HB⟩:=hrel
  have HTR:=Aside0.mk (Kd.C_below HW.out.tr HB.out)
  have HRD:=Aside0.mk (HW.out.rd.below HB.out)
  have BKW:=Aside0.mk (blk_below HW.out.bW HB.out)
  by_cases hlt:(k:Int) < l.truths.length
  ·obtain⟨n,hn,hnum,hstep⟩:=HBL.out k (by omega)
   obtain⟨ad7,e7,_,hy0,hy1,hy2,hy3,hy4,hy5,hy6,hy7,hy8,hy9,hy10⟩:=at_N HTR.out (k:Int) (by omega) hlt
   rw [hn]at hy0 hy1 hy2 hy3 hy4 hy5 hy6 hy7 hy8 hy9 hy10
   simp only [Int.toNat_natCast]at hy0 hy1 hy2 hy3 hy4 hy5 hy6 hy7 hy8 hy9 hy10
   subst e7
   have HNUM:=Aside0.mk hnum
   have HSTEP:=Aside0.mk hstep
   have HLO:=Aside0.mk (leftOk (cake:=cake) (shelf:=shelf) HV.out hnum k0 k1 s0 s1)
   clear hn hnum hstep
   go_upto_region 4 with(fail)
   obtain⟨g10,hg_⟩:∃g_,g_=wr.heap.size:=⟨_,rfl⟩
   obtain⟨w10,hw_⟩:∃w_,w_=World.alloc wr (Obj.cells #[.int .i64 (rd n 0),.int .i64 (rd n 1),.int .i64 (rd n 2),.int .i64 (rd n 3),.int .i64 (rd n 4),.int .i64 (rd n 5),.int .i64 (rd n 6),.int .i64 (rd n 7),.int .i64 (rd n 8),.int .i64 (rd n 9),.int .i64 (rd n 10)] 147):=⟨_,rfl⟩
   have hb_:Below wr.heap.size wr w10:=by rw [hw_];exact below_alloc (Below.refl _ _) _
   have BK10:Aside0 (w10.heap[g10]? =some (Obj.cells #[.int .i64 (rd n 0),.int .i64 (rd n 1),.int .i64 (rd n 2),.int .i64 (rd n 3),.int .i64 (rd n 4),.int .i64 (rd n 5),.int .i64 (rd n 6),.int .i64 (rd n 7),.int .i64 (rd n 8),.int .i64 (rd n 9),.int .i64 (rd n 10)] 147)):=⟨by rw [hw_,hg_];exact blk_new _ _⟩
   have g10GE:Aside0 (w.heap.size≤g10):=⟨by have:=below_size HB.out;rw [hg_];exact this⟩
   replace BK4:=Aside0.mk (blk_below BK4.out hb_)
   replace BKW:=Aside0.mk (blk_below BKW.out hb_)
   replace BK6:=Aside0.mk (blk_below BK6.out hb_)
   replace BK8:=Aside0.mk (blk_below BK8.out hb_)
   replace HTR:=Aside0.mk (Kd.C_below HTR.out hb_)
   replace HRD:=Aside0.mk (HRD.out.below hb_)
   replace HB:=Aside0.mk (below_step HB.out hb_)
   rw [←hw_,←hg_]
   clear hw_ hg_ hb_
   clear hy0 hy1 hy2 hy3 hy4 hy5 hy6 hy7 hy8 hy9 hy10
   replace BK4:=Aside0.mk (blk_drew BK4.out);replace BKW:=Aside0.mk (blk_drew BKW.out);replace BK10:=Aside0.mk (blk_drew BK10.out);replace BK6:=Aside0.mk (blk_drew BK6.out);replace BK8:=Aside0.mk (blk_drew BK8.out)
   replace HTR:=Aside0.mk (Kd.C_drew HTR.out)
   replace HRD:=Aside0.mk (HRD.out.below (below_drew1 (Below.refl _ _)))
   replace HB:=Aside0.mk (below_drew1 HB.out)
   refine start_ (n:=12) (S:=fun w'=>w'.cell? ⟨g4,0,none⟩=some (.func (.func F) #[] #[])∧w'.cell? ⟨gW,0,none⟩=some (.int .i64 l.a0)∧w'.cell? ⟨gW,1,none⟩=some (.slice A1 l.l1.length c1)∧w'.cell? ⟨gW,2,none⟩=some (.slice A2 l.l2.length c2)∧w'.cell? ⟨gW,3,none⟩=some (.slice A3 l.l3.length c3)∧w'.cell? ⟨gW,4,none⟩=some (.slice A4 l.l4.length c4)∧w'.cell? ⟨gW,5,none⟩=some (.slice A5 l.l5.length c5)∧w'.cell? ⟨g10,0,none⟩=some (.int .i64 (rd n 0))∧w'.cell? ⟨g10,1,none⟩=some (.int .i64 (rd n 1))∧w'.cell? ⟨g10,2,none⟩=some (.int .i64 (rd n 2))∧w'.cell? ⟨g10,3,none⟩=some (.int .i64 (rd n 3))∧w'.cell? ⟨g10,4,none⟩=some (.int .i64 (rd n 4))∧w'.cell? ⟨g10,5,none⟩=some (.int .i64 (rd n 5))∧w'.cell? ⟨g10,6,none⟩=some (.int .i64 (rd n 6))∧w'.cell? ⟨g10,7,none⟩=some (.int .i64 (rd n 7))∧w'.cell? ⟨g10,8,none⟩=some (.int .i64 (rd n 8))∧w'.cell? ⟨g10,9,none⟩=some (.int .i64 (rd n 9))∧w'.cell? ⟨g10,10,none⟩=some (.int .i64 (rd n 10))∧w'.cell? ⟨g6,0,none⟩=some (.int .i64 cake)∧w'.cell? ⟨g6,1,none⟩=some (.int .i64 shelf)) (ds:= []) #[false,false,false,false,false,false,false,false,false,false,false,false] (by kernel_rfl) rfl rfl ⟨(blk_cell BK4.out 0).trans rfl,(blk_cell BKW.out 0).trans rfl,(blk_cell BKW.out 1).trans rfl,(blk_cell BKW.out 2).trans rfl,(blk_cell BKW.out 3).trans rfl,(blk_cell BKW.out 4).trans rfl,(blk_cell BKW.out 5).trans rfl,(blk_cell BK10.out 0).trans rfl,(blk_cell BK10.out 1).trans rfl,(blk_cell BK10.out 2).trans rfl,(blk_cell BK10.out 3).trans rfl,(blk_cell BK10.out 4).trans rfl,(blk_cell BK10.out 5).trans rfl,(blk_cell BK10.out 6).trans rfl,(blk_cell BK10.out 7).trans rfl,(blk_cell BK10.out 8).trans rfl,(blk_cell BK10.out 9).trans rfl,(blk_cell BK10.out 10).trans rfl,(blk_cell BK6.out 0).trans rfl,(blk_cell BK6.out 1).trans rfl⟩ (fun hHeld=> ?_)
   generalize w10.drew=wd at BK4 BKW BK10 BK6 BK8 HTR HRD HB hHeld ⊢
   refine pure_ (i:=0) (N:=some 22) (v:= ?_) (a':= ?_) #[true,false,false,false,false,false,false,false,false,false,false,false] rfl rfl (by kernel_rfl) (fun _ _ _ h=>h) (Or.inl ⟨by rfl,?_⟩) ?_ ?_
   rotate_left
   ·intro w'
    go_simp
    with_reducible rfl
   rotate_left
   ·simp only [Act.put,List.setIfInBounds_toArray,List.set_cons_zero,List.set_cons_succ];rfl
   refine take_ (i:=1) (N:=some 23) (v:= ?_) (a':= ?_) #[true,true,false,false,false,false,false,false,false,false,false,false] rfl rfl (by kernel_rfl) (fun _ _ _ h=>h) (Or.inl ⟨by rfl,?_⟩) hHeld ?_ ?_
   rotate_left
   ·rintro w' ⟨s0,s1,s2,s3,s4,s5,s6,s7,s8,s9,s10,s11,s12,s13,s14,s15,s16,s17,s18,s19⟩
    go_simp
    with_reducible rfl
   rotate_left
   ·simp only [Act.put,List.setIfInBounds_toArray,List.set_cons_zero,List.set_cons_succ];rfl
   refine pure_ (i:=2) (N:=some 24) (v:= ?_) (a':= ?_) #[true,true,true,false,false,false,false,false,false,false,false,false] rfl rfl (by kernel_rfl) (fun _ _ _ h=>h) (Or.inl ⟨by rfl,?_⟩) ?_ ?_
   rotate_left
   ·intro w'
    go_simp
    with_reducible rfl
   rotate_left
   ·simp only [Act.put,List.setIfInBounds_toArray,List.set_cons_zero,List.set_cons_succ];rfl
   refine pure_ (i:=3) (N:=some 25) (v:= ?_) (a':= ?_) #[true,true,true,true,false,false,false,false,false,false,false,false] rfl rfl (by kernel_rfl) (fun _ _ _ h=>h) (Or.inl ⟨by rfl,?_⟩) ?_ ?_
   rotate_left
   ·intro w'
    go_simp
    with_reducible rfl
   rotate_left
   ·simp only [Act.put,List.setIfInBounds_toArray,List.set_cons_zero,List.set_cons_succ];rfl
   refine pure_ (i:=4) (N:=some 26) (v:= ?_) (a':= ?_) #[true,true,true,true,true,false,false,false,false,false,false,false] rfl rfl (by kernel_rfl) (fun _ _ _ h=>h) (Or.inl ⟨by rfl,?_⟩) ?_ ?_
   rotate_left
   ·intro w'
    go_simp
    with_reducible rfl
   rotate_left
   ·simp only [Act.put,List.setIfInBounds_toArray,List.set_cons_zero,List.set_cons_succ];rfl
   refine take_ (i:=5) (N:=some 27) (v:= ?_) (a':= ?_) #[true,true,true,true,true,true,false,false,false,false,false,false] rfl rfl (by kernel_rfl) (fun _ _ _ h=>h) (Or.inl ⟨by rfl,?_⟩) hHeld ?_ ?_
   rotate_left
   ·rintro w' ⟨s0,s1,s2,s3,s4,s5,s6,s7,s8,s9,s10,s11,s12,s13,s14,s15,s16,s17,s18,s19⟩
    go_simp
    with_reducible rfl
   rotate_left
   ·simp only [Act.put,List.setIfInBounds_toArray,List.set_cons_zero,List.set_cons_succ];rfl
   refine take_ (i:=6) (N:=some 28) (v:= ?_) (a':= ?_) #[true,true,true,true,true,true,true,false,false,false,false,false] rfl rfl (by kernel_rfl) (fun _ _ _ h=>h) (Or.inl ⟨by rfl,?_⟩) hHeld ?_ ?_
   rotate_left
   ·rintro w' ⟨s0,s1,s2,s3,s4,s5,s6,s7,s8,s9,s10,s11,s12,s13,s14,s15,s16,s17,s18,s19⟩
    go_simp
    with_reducible rfl
   rotate_left
   ·simp only [Act.put,List.setIfInBounds_toArray,List.set_cons_zero,List.set_cons_succ];rfl
   refine take_ (i:=7) (N:=some 29) (v:= ?_) (a':= ?_) #[true,true,true,true,true,true,true,true,false,false,false,false] rfl rfl (by kernel_rfl) (fun _ _ _ h=>h) (Or.inl ⟨by rfl,?_⟩) hHeld ?_ ?_
   rotate_left
   ·rintro w' ⟨s0,s1,s2,s3,s4,s5,s6,s7,s8,s9,s10,s11,s12,s13,s14,s15,s16,s17,s18,s19⟩
    go_simp
    with_reducible rfl
   rotate_left
   ·simp only [Act.put,List.setIfInBounds_toArray,List.set_cons_zero,List.set_cons_succ];rfl
   refine pure_ (i:=9) (N:=some 31) (v:= ?_) (a':= ?_) #[true,true,true,true,true,true,true,true,false,true,false,false] rfl rfl (by kernel_rfl) (fun _ _ _ h=>h) (Or.inl ⟨by rfl,?_⟩) ?_ ?_
   rotate_left
   ·intro w'
    go_simp
    with_reducible rfl
   rotate_left
   ·simp only [Act.put,List.setIfInBounds_toArray,List.set_cons_zero,List.set_cons_succ];rfl
   refine one_ (i:=8) (N:=some 30) #[true,true,true,true,true,true,true,true,true,true,false,false] rfl rfl (by kernel_rfl) (by decide) (fun K hK=> ?_)
   refine goes_ Try.func94 (by kernel_rfl) rfl #[.agg #[.int .i64 l.a0,.slice A1 l.l1.length c1,.slice A2 l.l2.length c2,.slice A3 l.l3.length c3,.slice A4 l.l4.length c4,.slice A5 l.l5.length c5],.agg #[.int .i64 (rd n 0),.int .i64 (rd n 1),.int .i64 (rd n 2),.int .i64 (rd n 3),.int .i64 (rd n 4),.int .i64 (rd n 5),.int .i64 (rd n 6),.int .i64 (rd n 7),.int .i64 (rd n 8),.int .i64 (rd n 9),.int .i64 (rd n 10)],.agg #[.int .i64 cake,.int .i64 shelf]] (by rfl) rfl rfl (by(try simp only [List.map_toArray,List.map_cons,List.map_nil]);rfl) ?_
   refine(L_left.lit ⟨A1,c1,A2,c2,A3,c3,A4,c4,A5,c5⟩ l n cake shelf _ HRD.out HLO.out).mono ?_
   rintro e wl ⟨v0,rfl,ho,hb⟩
   refine⟨_,rfl,?_⟩
   obtain⟨AL,cL,rfl,hle,hC⟩:=Kd.R_reads ho
   have HCL:=Aside0.mk hC
   have HLE:=Aside0.mk hle
   replace BK4:=Aside0.mk (blk_below BK4.out hb)
   replace BKW:=Aside0.mk (blk_below BKW.out hb)
   replace BK10:=Aside0.mk (blk_below BK10.out hb)
   replace BK6:=Aside0.mk (blk_below BK6.out hb)
   replace BK8:=Aside0.mk (blk_below BK8.out hb)
   replace HTR:=Aside0.mk (Kd.C_below HTR.out hb)
   replace HRD:=Aside0.mk (HRD.out.below hb)
   replace HB:=Aside0.mk (below_step HB.out hb)
   clear ho hb hC hle
   refine hK.out _ _ ⟨(blk_cell BK4.out 0).trans rfl,(blk_cell BKW.out 0).trans rfl,(blk_cell BKW.out 1).trans rfl,(blk_cell BKW.out 2).trans rfl,(blk_cell BKW.out 3).trans rfl,(blk_cell BKW.out 4).trans rfl,(blk_cell BKW.out 5).trans rfl,(blk_cell BK10.out 0).trans rfl,(blk_cell BK10.out 1).trans rfl,(blk_cell BK10.out 2).trans rfl,(blk_cell BK10.out 3).trans rfl,(blk_cell BK10.out 4).trans rfl,(blk_cell BK10.out 5).trans rfl,(blk_cell BK10.out 6).trans rfl,(blk_cell BK10.out 7).trans rfl,(blk_cell BK10.out 8).trans rfl,(blk_cell BK10.out 9).trans rfl,(blk_cell BK10.out 10).trans rfl,(blk_cell BK6.out 0).trans rfl,(blk_cell BK6.out 1).trans rfl⟩ (fun hHeld=> ?_)
   clear hK K
   refine norm_ (a':= ?_) ?_ ?_
   rotate_left
   ·show Act.put _ (some 30) _=_;simp only [Act.put,List.setIfInBounds_toArray,List.set_cons_zero,List.set_cons_succ];rfl
   refine one_ (i:=10) (N:=some 32) #[true,true,true,true,true,true,true,true,true,true,true,false] rfl rfl (by kernel_rfl) (by decide) (fun K hK=> ?_)
   refine call_ F #[.slice AL (l.left n cake shelf).length cL,.int .i64 i] (by rfl) rfl (by have h_:=HQ.out.enter #[.slice AL (l.left n cake shelf).length cL,.int .i64 i] wl;unfold execOp;simp [resolve,Deferred.ofValue,invoke,Act.eval,h_]) ?_
   refine(HQ.out.run AL cL _ i _ HCL.out HLE.out i0 (by rw [left_length];omega)).mono ?_
   rintro e wf ⟨rfl,hb⟩
   refine⟨_,rfl,?_⟩
   replace BK4:=Aside0.mk (blk_below BK4.out hb)
   replace BKW:=Aside0.mk (blk_below BKW.out hb)
   replace BK10:=Aside0.mk (blk_below BK10.out hb)
   replace BK6:=Aside0.mk (blk_below BK6.out hb)
   replace BK8:=Aside0.mk (blk_below BK8.out hb)
   replace HTR:=Aside0.mk (Kd.C_below HTR.out hb)
   replace HRD:=Aside0.mk (HRD.out.below hb)
   replace HB:=Aside0.mk (below_step HB.out hb)
   clear hb
   refine hK.out _ _ ⟨(blk_cell BK4.out 0).trans rfl,(blk_cell BKW.out 0).trans rfl,(blk_cell BKW.out 1).trans rfl,(blk_cell BKW.out 2).trans rfl,(blk_cell BKW.out 3).trans rfl,(blk_cell BKW.out 4).trans rfl,(blk_cell BKW.out 5).trans rfl,(blk_cell BK10.out 0).trans rfl,(blk_cell BK10.out 1).trans rfl,(blk_cell BK10.out 2).trans rfl,(blk_cell BK10.out 3).trans rfl,(blk_cell BK10.out 4).trans rfl,(blk_cell BK10.out 5).trans rfl,(blk_cell BK10.out 6).trans rfl,(blk_cell BK10.out 7).trans rfl,(blk_cell BK10.out 8).trans rfl,(blk_cell BK10.out 9).trans rfl,(blk_cell BK10.out 10).trans rfl,(blk_cell BK6.out 0).trans rfl,(blk_cell BK6.out 1).trans rfl⟩ (fun hHeld=> ?_)
   clear hK K
   refine norm_ (a':= ?_) ?_ ?_
   rotate_left
   ·show Act.put _ (some 32) _=_;simp only [Act.put,List.setIfInBounds_toArray,List.set_cons_zero,List.set_cons_succ];rfl
   refine pure_ (i:=11) (N:=some 11) (v:= ?_) (a':= ?_) #[true,true,true,true,true,true,true,true,true,true,true,true] rfl rfl (by kernel_rfl) (fun _ _ _ h=>h) (Or.inl ⟨by rfl,?_⟩) ?_ ?_
   rotate_left
   ·intro w'
    go_simp
    with_reducible rfl
   rotate_left
   ·simp only [Act.put,List.setIfInBounds_toArray,List.set_cons_zero,List.set_cons_succ];rfl
   refine done_ (by kernel_rfl) ?_
   obtain⟨av,hav⟩:∃av,av=fq (l.left n cake shelf) i:=⟨_,rfl⟩
   have hfn:fa n=av:=by rw [HFA.out,hav]
   rw [←hav]
   obtain⟨lo,hlo⟩:∃lo,lo=(bnd ((l.truths.take k).map fa)).1:=⟨_,rfl⟩
   obtain⟨hi,hhi⟩:∃hi,hi=(bnd ((l.truths.take k).map fa)).2:=⟨_,rfl⟩
   rw [←hlo,←hhi]at BK8
   have HFN:=Aside0.mk hfn
   have HLOE:=Aside0.mk hlo
   have HHIE:=Aside0.mk hhi
   clear hav hfn hlo hhi
   have f80:wf.cell? ⟨g8,0,none⟩=some (.int .i64 lo):=(blk_cell BK8.out 0).trans rfl
   have f81:wf.cell? ⟨g8,1,none⟩=some (.int .i64 hi):=(blk_cell BK8.out 1).trans rfl
   have ff0:=blk_frozen BK8.out 0
   have ff1:=blk_frozen BK8.out 1
   by_cases hk0:k=0
   ·have hkb:((k:Int)==0)=true:=by rw [hk0];rfl
    have HK0:=Aside0.mk hk0
    clear hk0
    go_wp2_with (go_at_call 115;go_must (refine(shelf_Range_wider.calls 3 av av av _ _ _ (wider_some av av av)).mono ?_;clear f80 f81 ff0 ff1;rintro e wd2 ⟨rfl,hb⟩;have BK8b:((wf.setCell ⟨g8,0,none⟩ (.int .i64 av)).setCell ⟨g8,1,none⟩ (.int .i64 av)).heap[g8]? =some (.cells #[.int .i64 av,.int .i64 av] 56 (0,0)):=blk_set (blk_set BK8.out 0 _) 1 _;replace BK4:=Aside0.mk (blk_below (blk_far (p:=⟨g8,1,none⟩) (blk_far (p:=⟨g8,0,none⟩) BK4.out (blk_ne BK4.out BK8.out (by decide)) _) (blk_ne BK4.out BK8.out (by decide)) _) hb);replace BK6:=Aside0.mk (blk_below (blk_far (p:=⟨g8,1,none⟩) (blk_far (p:=⟨g8,0,none⟩) BK6.out (blk_ne BK6.out BK8.out (by decide)) _) (blk_ne BK6.out BK8.out (by decide)) _) hb);replace HB:=Aside0.mk (below_step (below_set (below_set HB.out g8GE.out) g8GE.out) hb);replace BK8:=Aside0.mk (blk_below BK8b hb);clear BK8b hb;have f80:wd2.cell? ⟨g8,0,none⟩=some (.int .i64 av):=(blk_cell BK8.out 0).trans rfl;have f81:wd2.cell? ⟨g8,1,none⟩=some (.int .i64 av):=(blk_cell BK8.out 1).trans rfl;have ff0:=blk_frozen BK8.out 0;have ff1:=blk_frozen BK8.out 1))
    refine⟨⟨k+1,by simp,by omega,⟨?_⟩,⟨blk_far (blk_far BK4.out (blk_ne BK4.out BK8.out (by decide)) _) (blk_ne BK4.out BK8.out (by decide)) _⟩,⟨blk_far (blk_far BK6.out (blk_ne BK6.out BK8.out (by decide)) _) (blk_ne BK6.out BK8.out (by decide)) _⟩,⟨below_set (below_set HB.out g8GE.out) g8GE.out⟩⟩,by simp [intOf];omega⟩
    rw [HSTEP.out,HFN.out,HK0.out,List.take_zero,List.map_nil,List.nil_append,bnd_one]
    exact blk_set (blk_set BK8.out 0 _) 1 _
   ·have hkb:((k:Int)==0)=false:=by rw [beq_eq_false_iff_ne];omega
    have HK0:=Aside0.mk hk0
    clear hk0
    go_wp2_with (go_at_call 115;go_must (refine(shelf_Range_wider.calls 3 lo hi av _ _ _ (wider_some lo hi av)).mono ?_;clear f80 f81 ff0 ff1;rintro e wd2 ⟨rfl,hb⟩;replace BK4:=Aside0.mk (blk_below BK4.out hb);replace BK6:=Aside0.mk (blk_below BK6.out hb);replace HB:=Aside0.mk (below_step HB.out hb);replace BK8:=Aside0.mk (blk_below BK8.out hb);clear hb;have f80:wd2.cell? ⟨g8,0,none⟩=some (.int .i64 lo):=(blk_cell BK8.out 0).trans rfl;have f81:wd2.cell? ⟨g8,1,none⟩=some (.int .i64 hi):=(blk_cell BK8.out 1).trans rfl;have ff0:=blk_frozen BK8.out 0;have ff1:=blk_frozen BK8.out 1))
    refine⟨⟨k+1,by simp,by omega,⟨?_⟩,⟨blk_far (blk_far BK4.out (blk_ne BK4.out BK8.out (by decide)) _) (blk_ne BK4.out BK8.out (by decide)) _⟩,⟨blk_far (blk_far BK6.out (blk_ne BK6.out BK8.out (by decide)) _) (blk_ne BK6.out BK8.out (by decide)) _⟩,⟨below_set (below_set HB.out g8GE.out) g8GE.out⟩⟩,by simp [intOf];omega⟩
    rw [HSTEP.out,HFN.out,bnd_snoc _ _ (by intro h;have h2:=congrArg List.length h;simp only [List.length_map,List.length_take,List.length_nil]at h2;have:=HK0.out;omega),←HLOE.out,←HHIE.out]
    exact blk_set (blk_set BK8.out 0 _) 1 _
  ·have hkn:k=l.truths.length:=by omega
   have f80:wr.cell? ⟨g8,0,none⟩=some (.int .i64 (bnd ((l.truths.take k).map fa)).1):=(blk_cell BK8.out 0).trans rfl
   have f81:wr.cell? ⟨g8,1,none⟩=some (.int .i64 (bnd ((l.truths.take k).map fa)).2):=(blk_cell BK8.out 1).trans rfl
   have ff0:=blk_frozen BK8.out 0
   have ff1:=blk_frozen BK8.out 1
   go_wp2
   refine bodyPost_ret (results_cell_row rfl _ _ g8 56 #[.int .i64 (bnd (l.truths.map fa)).1,.int .i64 (bnd (l.truths.map fa)).2] (0,0) _ rfl (blk_set (blk_set BK8.out 0 _) 1 _) Try.underlying56 rfl (by kernel_rfl)) rfl ?_
   exact⟨rfl,below_set (below_set HB.out g8GE.out) g8GE.out⟩
end Go.Proofs.Ytjifalohjlihaaa.Q
end
section
namespace Go.Proofs.Ytjifalohjlihaaa.Q
set_option linter.unusedVariables false
open Go.BigFrame Go.RowKit Go.Shelf Go.Proofs.YtjifalohjlihaaaW.PrintWords Go.Proofs.YtjifalohjlihaaaW.PrintLast Go.Proofs.YtjifalohjlihaaaW.PrintMore
theorem asks_water:Asks 76 rd where
 run:=fun A c xs i W h hc h0 h1=>(shelf_days_water.calls A c xs i _ W h hc (by unfold shelf_days_water.f;rw [if_pos h0,if_pos h1])).mono (fun e w' hh=>⟨hh.1,by obtain⟨nd,rfl⟩:=hh.2;exact pw_below_drewN (Below.refl _ _) nd⟩)
 enter:=fun args w=>enters_ Try.func76 (by kernel_rfl) rfl args w
theorem asks_wet:Asks 116 (fun xs i=>mn (rd xs i) 1) where
 run:=fun A c xs i W h hc h0 h1=>shelf_days_wet.calls 3 A c xs i _ W h hc (by unfold shelf_days_wet.f;rw [if_pos h0,if_pos h1,min2_some];rfl)
 enter:=fun args w=>enters_ Try.func116 (by kernel_rfl) rfl args w
def SL.water (l:SL) (cake shelf i:Int):Int×Int:=bnd (l.truths.map fun n=>rd (l.left n cake shelf) i)
def SL.wet (l:SL) (cake shelf i:Int):Int×Int:=bnd (l.truths.map fun n=>mn (rd (l.left n cake shelf) i) 1)
def SL.dry (l:SL) (cake shelf i:Int):Int:=if (l.wet cake shelf i).2=0 then 1 else if (l.wet cake shelf i).1=1 then 2 else 3
structure Spot (l:SL) (cake shelf:Int):Prop where
 k0:0≤cake
 k1:cake < l.l3.length
 s0:0≤shelf
 s1:shelf < l.l2.length
set_option maxRecDepth 100000 in
set_option maxHeartbeats 1600000 in
theorem dry.calls (x:SA) (l:SL) (gW gM:Nat) (A7:Option Addr) (c7:Nat) (cake shelf i:Int) (w:World) (hW:Work w x l gW gM A7 c7) (hf:l.fault=0)
  (hs:Spot l cake shelf) (i0:0≤i) (i1:i≤l.a0-(rd_T126 l.l3 cake).f0):
  Calls Try.prog 80 #[.pointer (some ⟨gW,0,none⟩),.agg #[.int .i64 cake,.int .i64 shelf],.int .i64 i] w fun e w'=>e= .returned (.int .i64 (l.dry cake shelf i))∧Below w.heap.size w w':=by
 have HW:=Aside0.mk hW
 have HS:=Aside0.mk hs
 have HF:=Aside0.mk hf
 have HB:=Aside0.mk (Below.refl w.heap.size w)
 obtain⟨lo,hlo⟩:∃lo,lo=(l.wet cake shelf i).1:=⟨_,rfl⟩
 obtain⟨hi,hhi⟩:∃hi,hi=(l.wet cake shelf i).2:=⟨_,rfl⟩
 have hdry:l.dry cake shelf i=if hi=0 then 1 else if lo=1 then 2 else 3:=by rw [hlo,hhi];rfl
 have hcall:∀W,Below w.heap.size w W→Calls Try.prog 77 #[.agg #[.func (.func 116) #[] #[]],.pointer (some ⟨gW,0,none⟩),.agg #[.int .i64 cake,.int .i64 shelf],.int .i64 i] W fun e w'=>e= .returned (.agg #[.int .i64 lo,.int .i64 hi])∧Below W.heap.size W w':=by
  intro W hb
  rw [hlo,hhi]
  exact bounds.calls 116 _ asks_wet x l gW gM A7 c7 cake shelf i W (hW.below hb) hf hs.k0 hs.k1 hs.s0 hs.s1 i0 i1
 have HD:=Aside0.mk hdry
 have HC:=Aside0.mk hcall
 clear hW hs hf hcall hdry hlo hhi
 go_enter Try.func80,Try.ntmps80
 go_upto_region 2 with(first|((with_reducible refine gate_dst (N:=4) rfl ?_);refine box_event ?hg (N:=4) ?hd (cs:=#[.int .i64 cake,.int .i64 shelf]) (t:=134) ?hr ?_;(case hd=>rfl);(case hg=>rfl);(case hr=>first|(go_simp;done)|(go_simp;rfl));intro g4 hg_ w4 hbx_ hb_;have BK4:=Aside0.mk hbx_;have g4ge:w.heap.size≤g4:=(by have:=below_size HB.out;omega);have g4GE:=Aside0.mk g4ge;clear g4ge;have HBn:=Aside0.mk (below_step HB.out hb_);clear HB hg_ hb_ hbx_;have HB:=HBn;clear HBn;have f40:w4.cell? ⟨g4,0,none⟩=some (.int .i64 cake):=(blk_cell BK4.out 0).trans rfl;have f41:w4.cell? ⟨g4,1,none⟩=some (.int .i64 shelf):=(blk_cell BK4.out 1).trans rfl)|(go_at_call 77;go_must (refine(HC.out _ HB.out).mono ?_;rintro e w5 ⟨rfl,hb⟩;clear f40 f41;replace HB:=Aside0.mk (below_step HB.out hb);clear BK4 hb)))
 obtain⟨g7,hg_⟩:∃g_,g_=w5.heap.size:=⟨_,rfl⟩
 obtain⟨w7,hw_⟩:∃w_,w_=World.alloc w5 (Obj.cells #[.int .i64 lo,.int .i64 hi] 56):=⟨_,rfl⟩
 have hb_:Below w5.heap.size w5 w7:=by rw [hw_];exact below_alloc (Below.refl _ _) _
 have BK7:Aside0 (w7.heap[g7]? =some (Obj.cells #[.int .i64 lo,.int .i64 hi] 56)):=⟨by rw [hw_,hg_];exact blk_new _ _⟩
 have g7GE:Aside0 (w.heap.size≤g7):=⟨by have:=below_size HB.out;rw [hg_];exact this⟩
 replace HB:=Aside0.mk (below_step HB.out hb_)
 rw [←hw_,←hg_]
 clear hw_ hg_ hb_
 have f70:w7.cell? ⟨g7,0,none⟩=some (.int .i64 lo):=(blk_cell BK7.out 0).trans rfl
 have f71:w7.cell? ⟨g7,1,none⟩=some (.int .i64 hi):=(blk_cell BK7.out 1).trans rfl
 by_cases h1:hi=0
 ·have h1b:(hi==0)=true:=by rw [h1];rfl
  have H1:=Aside0.mk h1
  clear h1
  go_wp2
  go_ret
  exact⟨by rw [HD.out,if_pos H1.out];rfl,HB.out⟩
 ·have h1b:(hi==0)=false:=by rw [beq_eq_false_iff_ne];exact h1
  have H1:=Aside0.mk h1
  clear h1
  by_cases h2:lo=1
  ·have h2b:(lo==1)=true:=by rw [h2];rfl
   have H2:=Aside0.mk h2
   clear h2
   go_wp2
   go_ret
   exact⟨by rw [HD.out,if_neg H1.out,if_pos H2.out];rfl,HB.out⟩
  ·have h2b:(lo==1)=false:=by rw [beq_eq_false_iff_ne];exact h2
   have H2:=Aside0.mk h2
   clear h2
   go_wp2
   go_ret
   exact⟨by rw [HD.out,if_neg H1.out,if_neg H2.out];rfl,HB.out⟩
end Go.Proofs.Ytjifalohjlihaaa.Q
end
section
namespace Go.Proofs.Ytjifalohjlihaaa.Q
set_option linter.unusedVariables false
open Go.BigFrame Go.RowKit Go.Shelf Go.Proofs.YtjifalohjlihaaaW.PrintWords Go.Proofs.YtjifalohjlihaaaW.PrintLast Go.Proofs.YtjifalohjlihaaaW.PrintMore
abbrev spotV (c s:Int):Value:= .agg #[.int .i64 c,.int .i64 s]
def spotK (c s:Int):Lit:= .string (keyBytes [.int .i64 c,.int .i64 s])
theorem wide134:(match Try.prog.underlying 134 with|some (.array _ _)|some (.struct _)=>true|_=>false)=true:=by kernel_rfl
set_option maxRecDepth 100000 in
theorem keyed134:Maps.Keyed Try.prog 134:=Maps.Keyed.of_law (deep_law (m:=2) (by decide) (by kernel_rfl) (by kernel_rfl) wide134)
set_option maxRecDepth 100000 in
theorem cells134:Try.prog.cellsOf 134=2:=by kernel_rfl
set_option maxRecDepth 100000 in
theorem fields134:(Try.prog.fieldsOf 134).toList.map (fun f=>(f.type,f.offset,f.name != "_"))= [(3,0,true),(3,1,true)]:=by kernel_rfl
set_option maxRecDepth 100000 in
theorem under134:Try.prog.underlying 134=some (.struct (Try.prog.fieldsOf 134)):=by kernel_rfl
set_option maxRecDepth 100000 in
theorem keyType134:Try.prog.keyType 134=true:=by kernel_rfl
theorem keyLits_int1 {n:Int} {d:Nat} (h0:0≤n) (h1:n≤40):Try.prog.keyLits (d+1) 3 [.int .i64 n]=some [.int .i64 n]:=by
 simp only [Program.keyLits,Try.underlying3]
 have h2:IntKind.i64.min= -9223372036854775808:=by rfl
 have h3:IntKind.i64.max=9223372036854775807:=by rfl
 rw [if_pos ⟨trivial,by simp only [Lit.wf,Bool.and_eq_true,decide_eq_true_eq];omega⟩]
set_option maxRecDepth 100000 in
theorem types_pos:1≤Try.prog.types.size:=by
 have h:Nat.ble 1 Try.prog.types.size=true:=by kernel_rfl
 exact Nat.le_of_ble_eq_true h
theorem formed134 (c s:Int):(spotV c s).formed Try.prog 134=true:=by
 simp only [Value.formed,under134,cells134]
 rfl
set_option maxRecDepth 100000 in
theorem key134 (c s:Int) (h0:0≤c) (h1:c≤40) (h2:0≤s) (h3:s≤40):keyOf Try.prog 134 (spotV c s)=some (spotK c s):=by
 have hk:∀d,Try.prog.keyLits (d+2) 134 [.int .i64 c,.int .i64 s]=some [.int .i64 c,.int .i64 s]:=by
  intro d
  have hf:=fields134
  obtain⟨fs,hfs⟩:∃fs,fs=Try.prog.fieldsOf 134:=⟨_,rfl⟩
  have hu:=under134
  rw [←hfs]at hf hu
  obtain⟨fl⟩:=fs
  unfold Program.keyLits
  rw [hu]
  simp only [cells134]
  match fl,hf with
  | [f1,f2],hf=>
   simp only [List.map_cons,List.map_nil,List.cons.injEq,Prod.mk.injEq,and_true]at hf
   obtain⟨⟨t1,o1,n1⟩,⟨t2,o2,n2⟩⟩:=hf
   rw [if_pos ⟨by rfl,by simp [n1,n2]⟩]
   simp only [List.mapM_cons,List.mapM_nil,t1,t2,o1,o2,cells3,List.drop_zero,List.take_succ_cons,List.take_zero,List.drop_succ_cons,keyLits_int1 h0 h1,keyLits_int1 h2 h3]
   rfl
 unfold keyOf
 rw [under134]
 simp only [keyType134,formed134,Bool.and_self,if_true]
 obtain⟨d,hd⟩:∃d,Try.prog.types.size+1=d+2:=⟨Try.prog.types.size-1,by have:=types_pos;omega⟩
 rw [hd]
 show Option.map _ (Try.prog.keyLits (d+2) 134 [.int .i64 c,.int .i64 s])=_
 rw [hk]
 rfl
theorem spotK_inj {c s c' s':Int} (h0:0≤c) (h1:c≤40) (h2:0≤s) (h3:s≤40) (h0':0≤c') (h1':c'≤40) (h2':0≤s') (h3':s'≤40) (h:spotK c s=spotK c' s'):c=c'∧s=s':=by
 have e:=keyed134.inj (key134 c s h0 h1 h2 h3) (h▸key134 c' s' h0' h1' h2' h3')
 simp only [spotV,Value.agg.injEq]at e
 simpa using e
noncomputable abbrev RI:Value→Option (DataW Unit×List MemPlace):=plainElem (H:=Unit) Try.prog 3
def isNil:DataW Unit→Bool
 | .nil=>true
 |_=>false
def allSpots:List (Int×Int):= [0,1,2,3,4].flatMap fun c=> [(c,0),(c,1),(c,2)]
theorem mem_spots {c s:Int} (h0:0≤c) (h1:c < 5) (h2:0≤s) (h3:s < 3):(c,s)∈allSpots:=by
 have hc:c=0∨c=1∨c=2∨c=3∨c=4:=by omega
 have hs:s=0∨s=1∨s=2:=by omega
 rcases hc with rfl|rfl|rfl|rfl|rfl<;>rcases hs with rfl|rfl|rfl<;>decide
theorem spots_small:∀p∈allSpots,0≤p.1∧p.1≤40∧0≤p.2∧p.2≤40:=by decide
def known (D:DataW Unit):Nat:=(allSpots.filter fun p=>!isNil (D.atKey (spotK p.1 p.2) .nil)).length
theorem known_le (D:DataW Unit):known D≤15:=by
 have:=List.length_filter_le (fun p:Int×Int=>!isNil (D.atKey (spotK p.1 p.2) .nil)) allSpots
 have h:allSpots.length=15:=by decide
 unfold known;omega
theorem filter_more {α:Type} {p q:α→Bool} {a0:α}:∀(L:List α),(∀a∈L,p a=true→q a=true)→a0∈L→p a0=false→q a0=true→(L.filter p).length+1≤(L.filter q).length:=by
 intro L
 induction L with
 |nil=>intro _ h;cases h
 |cons b t ih=>
  intro himp hmem hp hq
  have hle:(t.filter p).length≤(t.filter q).length:=by
   have h1:∀(L:List α),(∀a∈L,p a=true→q a=true)→(L.filter p).length≤(L.filter q).length:=by
    intro L
    induction L with
    |nil=>intro _;simp
    |cons c r ihr=>
     intro h
     have h2:=ihr (fun a ha=>h a (List.mem_cons_of_mem _ ha))
     have h3:=h c List.mem_cons_self
     simp only [List.filter_cons]
     cases hpc:p c with
     |false=>cases hqc:q c<;>simp<;>omega
     |true=>rw [h3 hpc];simp;omega
   exact h1 t (fun a ha=>himp a (List.mem_cons_of_mem _ ha))
  have hb:=himp b List.mem_cons_self
  simp only [List.filter_cons]
  rcases List.mem_cons.1 hmem with e|e
  ·rw [←e,hp,hq];simp;omega
  ·have h2:=ih (fun a ha=>himp a (List.mem_cons_of_mem _ ha)) e hp hq
   cases hpb:p b with
   |false=>cases hqb:q b<;>simp<;>omega
   |true=>rw [hb hpb];simp;omega
def MemoD (X:World) (gM n:Nat) (f:Int→Int→Int) (D:DataW Unit):Prop:=X.ownsMap Try.prog 134 RI gM n D∧n≤known D∧
 ∀c s:Int,0≤c→c < 5→0≤s→s < 3→D.atKey (spotK c s) .nil= .nil∨D.atKey (spotK c s) .nil= .lit (.int .i64 (f c s))
def Memo (X:World) (gM:Nat) (f:Int→Int→Int):Prop:=∃n D,MemoD X gM n f D
def MemoU (X:World) (gM:Nat) (f:Int→Int→Int) (c s:Int):Prop:=∃n D,MemoD X gM n f D∧D.atKey (spotK c s) .nil= .nil
theorem zero3 (w:World):(zeroValue 3).run Try.prog w= .ok (.int .i64 0) w:=by
 have hz:Try.t3.zero=some (.int .i64 0):=by kernel_rfl
 simp [zeroValue,go_sem,hz]
theorem memo_look {X:World} {gM:Nat} {f:Int→Int→Int} (h:Memo X gM f) {c s:Int} (h0:0≤c) (h1:c < 5) (h2:0≤s) (h3:s < 3):
  (MemoU X gM f c s∧∀Y:World,Y.heap[gM]? =X.heap[gM]? →(Instr.lookup 167 (.map (some gM)) (spotV c s) true).run Try.prog Y= .ok (.tuple #[.int .i64 0,.bool false]) Y)∨
  ∀Y:World,Y.heap[gM]? =X.heap[gM]? →(Instr.lookup 167 (.map (some gM)) (spotV c s) true).run Try.prog Y= .ok (.tuple #[.int .i64 (f c s),.bool true]) Y:=by
 obtain⟨n,D,hm,hn,hd⟩:=h
 have hm':=hm
 obtain⟨es,clock,hb,F,hs,rfl⟩:=hm
 rcases hd c s h0 h1 h2 h3 with hd1|hd1
 ·refine .inl ⟨⟨n,_,⟨hm',hn,hd⟩,hd1⟩,fun Y hY=> ?_⟩
  rcases Maps.fit_look true keyed134 Try.underlying167 (zero3 Y) (hY.trans hb) F (key134 c s h0 (by omega) h2 (by omega))with⟨hrun,_,hat⟩|⟨e0,y,_,_,hrun,hR,hat,_⟩
  ·exact hrun
  ·obtain⟨a,ha,hy,_⟩:=plainElem_int_inv Try.underlying3 hR
   have hat2:=hat .nil
   rw [hy,hd1]at hat2
   cases hat2
 ·refine .inr fun Y hY=> ?_
  rcases Maps.fit_look true keyed134 Try.underlying167 (zero3 Y) (hY.trans hb) F (key134 c s h0 (by omega) h2 (by omega))with⟨hrun,_,hat⟩|⟨e0,y,_,_,hrun,hR,hat,_⟩
  ·have hat2:=hat .nil
   rw [hd1]at hat2
   cases hat2
  ·obtain⟨a,ha,hy,_⟩:=plainElem_int_inv Try.underlying3 hR
   have hat2:=hat .nil
   rw [hy,hd1]at hat2
   simp only [DataW.lit.injEq,Lit.int.injEq,true_and]at hat2
   rw [ha,←hat2]at hrun
   exact hrun
theorem memo_update {X:World} {gM:Nat} {f:Int→Int→Int} {c s:Int} (h:MemoU X gM f c s) (h0:0≤c) (h1:c < 5) (h2:0≤s) (h3:s < 3) (f0:0≤f c s) (f1:f c s≤40):
  ∃w',(Instr.mapUpdate 167 (.map (some gM)) (spotV c s) (.int .i64 (f c s))).run Try.prog X= .ok () w'∧Memo w' gM f∧X.grownBy w' (some gM):=by
 obtain⟨n,D,⟨hm,hn,hd⟩,hu⟩:=h
 have hk:=key134 c s h0 (by omega) h2 (by omega)
 have hwf:(Lit.int .i64 (f c s)).wf=true:=by
  have h2:IntKind.i64.min= -9223372036854775808:=by rfl
  have h3:IntKind.i64.max=9223372036854775807:=by rfl
  simp only [Lit.wf,Bool.and_eq_true,decide_eq_true_eq];omega
 have hmap:Maps.IsMap D:=by obtain⟨es,clock,_,_,_,hD⟩:=hm;exact⟨_,hD⟩
 have hroom:n < maxLen:=by
  have h1:=known_le D
  have h2:(15:Nat) < maxLen:=by decide
  omega
 obtain⟨w',hrun,hm2,hg⟩:=hm.update keyed134 Try.underlying167 hroom hk (plainElem_int Try.underlying3 hwf)
 have hsame:∀c' s':Int,0≤c'→c'≤40→0≤s'→s'≤40→((D.put (spotK c s) (.lit (.int .i64 (f c s)))).atKey (spotK c' s') .nil=if c'=c∧s'=s then .lit (.int .i64 (f c s))else D.atKey (spotK c' s') .nil):=by
  intro c' s' a0 a1 a2 a3
  by_cases e:c'=c∧s'=s
  ·rw [if_pos e,e.1,e.2]
   exact Maps.atKey_put_same hmap (keyed134.key hk) _ _
  ·rw [if_neg e]
   exact Maps.atKey_put_other (fun hh=>e (spotK_inj a0 a1 a2 a3 h0 (by omega) h2 (by omega) hh)) _ _
 refine⟨w',hrun,⟨n+1,_,hm2,?_,?_⟩,hg⟩
 ·refine Nat.le_trans (Nat.succ_le_succ hn) ?_
  refine filter_more (a0:=(c,s)) allSpots (fun p hp hh=> ?_) (mem_spots h0 h1 h2 h3) (by rw [hu];rfl) ?_
  ·obtain⟨b0,b1,b2,b3⟩:=spots_small p hp
   rw [hsame p.1 p.2 b0 b1 b2 b3]
   split
   ·rfl
   ·exact hh
  ·rw [hsame c s h0 (by omega) h2 (by omega),if_pos ⟨rfl,rfl⟩];rfl
 ·intro c' s' a0 a1 a2 a3
  rw [hsame c' s' a0 (by omega) a2 (by omega)]
  by_cases e:c'=c∧s'=s
  ·rw [if_pos e,e.1,e.2];exact .inr rfl
  ·rw [if_neg e];exact hd c' s' a0 a1 a2 a3
theorem Memo.lt {X:World} {gM:Nat} {f:Int→Int→Int} (h:Memo X gM f):gM < X.heap.size:=by
 obtain⟨n,D,h,_⟩:=h
 exact h.lt
theorem Memo.keep {X Y:World} {gM:Nat} {f:Int→Int→Int} (h:Memo X gM f) (hb:Y.heap[gM]? =X.heap[gM]?):Memo Y gM f:=by
 obtain⟨n,D,⟨es,clock,hb',h1,h2,h3⟩,h4⟩:=h
 exact⟨n,D,⟨es,clock,hb.trans hb',h1,h2,h3⟩,h4⟩
theorem MemoU.keep {X Y:World} {gM:Nat} {f:Int→Int→Int} {c s:Int} (h:MemoU X gM f c s) (hb:Y.heap[gM]? =X.heap[gM]?):MemoU Y gM f c s:=by
 obtain⟨n,D,⟨⟨es,clock,hb',h1,h2,h3⟩,h4⟩,h5⟩:=h
 exact⟨n,D,⟨⟨es,clock,hb.trans hb',h1,h2,h3⟩,h4⟩,h5⟩
end Go.Proofs.Ytjifalohjlihaaa.Q
end
section
namespace Go.Proofs.Ytjifalohjlihaaa.Q
set_option linter.unusedVariables false
open Go.BigFrame Go.RowKit Go.Shelf Go.Proofs.YtjifalohjlihaaaW.PrintWords Go.Proofs.YtjifalohjlihaaaW.PrintLast Go.Proofs.YtjifalohjlihaaaW.PrintMore
def SL.sureFrom (l:SL) (cake shelf:Int):Nat→Int→Int
 |0,_=>12
 |k+1,i=>if l.dry cake shelf i=1 then(rd_T126 l.l3 cake).f0+i else l.sureFrom cake shelf k (i+1)
def SL.sure (l:SL) (cake shelf:Int):Int:=l.sureFrom cake shelf (l.a0-(rd_T126 l.l3 cake).f0+1).toNat 0
theorem sureFrom_small {l:SL} {cake shelf:Int} (h0:0≤(rd_T126 l.l3 cake).f0):∀(k:Nat) (i:Int),0≤i→(rd_T126 l.l3 cake).f0+i+k≤12→0≤l.sureFrom cake shelf k i∧l.sureFrom cake shelf k i≤12:=by
 intro k
 induction k with
 |zero=>intro i _ _;unfold SL.sureFrom;omega
 |succ k ih=>
  intro i hi hk
  unfold SL.sureFrom
  split
  ·omega
  ·exact ih (i+1) (by omega) (by omega)
theorem sure_small {l:SL} (hv:Valid l) {cake shelf:Int} (hs:Spot l cake shelf):0≤l.sure cake shelf∧l.sure cake shelf≤12:=by
 have hc:=hv.cakes cake hs.k0 hs.k1
 have:=hv.last5
 exact sureFrom_small hc.1 _ _ (Int.le_refl 0) (by omega)
structure Job (w0 X:World) (x:SA) (l:SL) (gW gM:Nat) (A7:Option Addr) (c7:Nat):Prop where
 bel:Below w0.heap.size w0 X
 rd0:Rd w0 x l
 work:Work X x l gW gM A7 c7
 gWge:w0.heap.size≤gW
 gMge:w0.heap.size≤gM
 neW:gW≠gM
 ne7:∀a,A7=some a→a.block≠gM
theorem Job.below {w0 X Y:World} {x:SA} {l:SL} {gW gM:Nat} {A7:Option Addr} {c7:Nat} (h:Job w0 X x l gW gM A7 c7) (hb:Below X.heap.size X Y):Job w0 Y x l gW gM A7 c7:=
 ⟨below_step h.bel hb,h.rd0,h.work.below hb,h.gWge,h.gMge,h.neW,h.ne7⟩
theorem Job.turn {w0 X Y:World} {x:SA} {l:SL} {gW gM:Nat} {A7:Option Addr} {c7:Nat} (h:Job w0 X x l gW gM A7 c7) (ht:Turn (fun k=>k=gM) X Y):Job w0 Y x l gW gM A7 c7:=by
 have hb:Below w0.heap.size w0 Y:=Turn.below h.bel ht (fun k hk=>by have:=h.gMge;omega) h.bel.size
 refine⟨hb,h.rd0,⟨ht.blk h.work.bW h.neW,?_,h.work.h7,h.rd0.below hb⟩,h.gWge,h.gMge,h.neW,h.ne7⟩
 by_cases hn:0 < l.truths.length
 ·obtain⟨a,e,hj⟩:=h.work.tr.2.2 hn
  refine C_block (fun _ _ _ _ h=>h) h.work.tr (fun b e'=> ?_)
  obtain rfl:a=b:=by rw [e]at e';exact Option.some.inj e'
  have hne:=h.ne7 a e
  obtain⟨c,hl,hK,hi⟩:=hj 0 _ (List.getElem?_eq_getElem hn)
  have hc:c≠ []:=by intro hc;rw [hc]at hl;cases hl
  obtain⟨u,t,rfl⟩:∃u t,c=u::t:=by cases c with|nil=>exact absurd rfl hc|cons u t=>exact⟨u,t,rfl⟩
  have h0:=World.block_lt_of_cell? _ _ (hi 0 u rfl)
  rw [add_block]at h0
  exact ht.block _ h0 hne
 ·refine⟨h.work.tr.1,h.work.tr.2.1,fun hh=>absurd hh hn⟩
theorem turn_grown {X Y:World} {g:Nat} (h:X.grownBy Y (some g)):Turn (fun k=>k=g) X Y:=
 ⟨h.size,fun k hk ho=>h.block k hk (fun e=>ho (Option.some.inj e)),h.os,h.tape,h.output⟩
abbrev SL.Days (l:SL) (X:World) (gM:Nat):Prop:=Memo X gM l.sure
set_option maxRecDepth 100000 in
set_option maxHeartbeats 6400000 in
theorem sure.calls (x:SA) (l:SL) (gW gM:Nat) (A7:Option Addr) (c7:Nat) (cake shelf:Int) (w0 w:World) (hJ:Job w0 w x l gW gM A7 c7) (hM:l.Days w gM) (hf:l.fault=0) (hs:Spot l cake shelf):
  Calls Try.prog 83 #[.pointer (some ⟨gW,0,none⟩),.agg #[.int .i64 cake,.int .i64 shelf]] w fun e w'=>e= .returned (.int .i64 (l.sure cake shelf))∧Job w0 w' x l gW gM A7 c7∧l.Days w' gM∧Turn (fun k=>k=gM) w w':=by
 have hv:=valid_of hf
 have hc3:=hv.cake5
 have hs3:=hv.shelf3
 have hc:=hv.cakes cake hs.k0 hs.k1
 obtain⟨co0,co1,_⟩:=hc
 have la5:=hv.last5
 obtain⟨k0,k1,s0,s1⟩:=hs
 have SM0:=Aside0.mk (sure_small hv (⟨k0,k1,s0,s1⟩:Spot l cake shelf))
 obtain⟨A1,c1,A2,c2,A3,c3,A4,c4,A5,c5⟩:=x
 have J:=Aside0.mk hJ
 have HM:=Aside0.mk hM
 have HV:=Aside0.mk hv
 have HF:=Aside0.mk hf
 have HB:=Aside0.mk (Below.refl w.heap.size w)
 clear hJ hM hv hf
 go_enter Try.func83,Try.ntmps83
 go_upto_region 1 with(first|((with_reducible refine gate_dst (N:=3) rfl ?_);refine box_event ?hg (N:=3) ?hd (cs:=#[.int .i64 cake,.int .i64 shelf]) (t:=134) ?hr ?_;(case hd=>rfl);(case hg=>rfl);(case hr=>first|(go_simp;done)|(go_simp;rfl));intro g3 hg_ w3 hbx_ hb_;have BK3:=Aside0.mk hbx_;have g3ge:w.heap.size≤g3:=(by have:=below_size HB.out;omega);have g3GE:=Aside0.mk g3ge;clear g3ge;have HBn:=Aside0.mk (below_step HB.out hb_);clear HB hg_ hb_ hbx_;have HB:=HBn;clear HBn))
 have hb3:=HB.out
 replace J:=Aside0.mk (J.out.below hb3)
 replace HM:=Aside0.mk (HM.out.keep (hb3.block gM HM.out.lt))
 have TN:=Aside0.mk (Turn.of_below (Own:=fun k=>k=gM) hb3)
 clear hb3
 have f30:w3.cell? ⟨g3,0,none⟩=some (.int .i64 cake):=(blk_cell BK3.out 0).trans rfl
 have f31:w3.cell? ⟨g3,1,none⟩=some (.int .i64 shelf):=(blk_cell BK3.out 1).trans rfl
 have fm:w3.cell? ⟨gW,7,none⟩=some (.map (some gM)):=(blk_cell J.out.work.bW 7).trans rfl
 rcases memo_look HM.out k0 (by omega) s0 (by omega)with⟨MU0,hrun⟩|hrun
 ·have MU:=Aside0.mk MU0
  have hlk:∀n,(Instr.lookup 167 (.map (some gM)) (.agg #[.int .i64 cake,.int .i64 shelf]) true).run Try.prog (w3.drewN n)= .ok (.tuple #[.int .i64 0,.bool false]) (w3.drewN n):=fun n=>hrun _ rfl
  clear MU0 hrun HM
  go_quiet (fail)
  have hb_:=pw_below_drewN (Below.refl w3.heap.size w3) nq
  replace J:=Aside0.mk (J.out.below hb_)
  replace MU:=Aside0.mk (show MemoU (w3.drewN nq) gM l.sure cake shelf from MU.out)
  replace TN:=Aside0.mk (TN.out.trans (Turn.of_below hb_))
  replace BK3:=Aside0.mk (blk_drewN BK3.out nq)
  clear hb_ HB f30 f31 fm hlk
  generalize w3.drewN nq=w4 at J MU TN BK3 ⊢
  obtain⟨ad3,e3,fC0,_,_,_⟩:=at_T126 J.out.work.rd.r3 cake k0 k1
  simp only at e3
  subst e3
  have f30:w4.cell? ⟨g3,0,none⟩=some (.int .i64 cake):=(blk_cell BK3.out 0).trans rfl
  have f33:w4.cell? ⟨gW,3,none⟩=some (.slice (some ad3) l.l3.length c3):=(blk_cell J.out.work.bW 3).trans rfl
  go_upto_region 3 with(fail)
  go_quiet (fail)
  have hb_:=pw_below_drewN (Below.refl w4.heap.size w4) nq
  replace J:=Aside0.mk (J.out.below hb_)
  replace MU:=Aside0.mk (show MemoU (w4.drewN nq) gM l.sure cake shelf from MU.out)
  replace TN:=Aside0.mk (TN.out.trans (Turn.of_below hb_))
  replace BK3:=Aside0.mk (blk_drewN BK3.out nq)
  clear hb_ f30 f33 fC0
  generalize w4.drewN nq=w5 at J MU TN BK3 ⊢
  have f0:w5.cell? ⟨gW,0,none⟩=some (.int .i64 l.a0):=(blk_cell J.out.work.bW 0).trans rfl
  obtain⟨co,hco⟩:∃co,co=(rd_T126 l.l3 cake).f0:=⟨_,rfl⟩
  rw [←hco]at co0 co1 ⊢
  have HCO:=Aside0.mk hco
  clear hco
  have hw1:IntKind.i64.wrap (l.a0-co)=l.a0-co:=IntWalk.i64_in _ (by omega)
  have hw2:IntKind.i64.wrap (l.a0-co+1)=l.a0-co+1:=IntWalk.i64_in _ (by omega)
  go_wp2_with fail
  clear f0
  go_loopw [5,38] (fun v5 v38 wr=>∃i:Int,v5= .int .i64 12∧v38= .int .i64 i∧0≤i∧i≤l.a0-co+1∧Aside0 (l.sureFrom cake shelf (l.a0-co+1-i).toNat i=l.sure cake shelf)∧Aside0 (Job w0 wr ⟨A1,c1,A2,c2,some ad3,c3,A4,c4,A5,c5⟩ l gW gM A7 c7)∧Aside0 (MemoU wr gM l.sure cake shelf)∧Aside0 (Turn (fun k=>k=gM) w wr)∧Aside0 (wr.heap[g3]? =some (.cells #[.int .i64 cake,.int .i64 shelf] 134 (0,0)))) (fun _ v38 _=>(l.a0-co+1-intOf v38).toNat)
  case atStart=>exact⟨0,rfl,rfl,by omega,by omega,⟨by rw [HCO.out,Int.sub_zero];rfl⟩,J,MU,TN,BK3⟩
  case round=>
   clear J MU TN BK3
   obtain⟨i,rfl,rfl,i0,i1,HS,J,MU,TN,BK3⟩:=hrel
   by_cases hlt:i < l.a0-co+1
   ·have f30:wr.cell? ⟨g3,0,none⟩=some (.int .i64 cake):=(blk_cell BK3.out 0).trans rfl
    have f31:wr.cell? ⟨g3,1,none⟩=some (.int .i64 shelf):=(blk_cell BK3.out 1).trans rfl
    obtain⟨dv,hdv⟩:∃dv,dv=l.dry cake shelf i:=⟨_,rfl⟩
    have hstep:l.sure cake shelf=if dv=1 then co+i else l.sureFrom cake shelf (l.a0-co+1-(i+1)).toNat (i+1):=by
     rw [←HS.out,hdv,HCO.out]
     obtain⟨k,hk⟩:∃k,(l.a0-(rd_T126 l.l3 cake).f0+1-i).toNat=k+1:=⟨(l.a0-(rd_T126 l.l3 cake).f0+1-(i+1)).toNat,by rw [HCO.out]at hlt;omega⟩
     rw [hk]
     have hk2:(l.a0-(rd_T126 l.l3 cake).f0+1-(i+1)).toNat=k:=by omega
     rw [hk2]
     rfl
    have HST:=Aside0.mk hstep
    have hcall:Calls Try.prog 80 #[.pointer (some ⟨gW,0,none⟩),.agg #[.int .i64 cake,.int .i64 shelf],.int .i64 i] wr fun e w'=>e= .returned (.int .i64 dv)∧Below wr.heap.size wr w':=by
     rw [hdv]
     exact dry.calls ⟨A1,c1,A2,c2,some ad3,c3,A4,c4,A5,c5⟩ l gW gM A7 c7 cake shelf i wr J.out.work HF.out ⟨k0,k1,s0,s1⟩ i0 (by rw [←HCO.out];omega)
    have HC:=Aside0.mk hcall
    clear hcall hdv hstep HS
    have hwi:IntKind.i64.wrap (co+i)=co+i:=IntWalk.i64_in _ (by omega)
    have hwj:IntKind.i64.wrap (i+1)=i+1:=IntWalk.i64_in _ (by omega)
    by_cases hd:dv=1
    ·have hdb:(dv==1)=true:=by rw [hd];rfl
     have HD:=Aside0.mk hd
     clear hd
     go_wp2_with (go_at_call 80;go_must (refine HC.out.mono ?_;clear f30 f31;rintro e wd0 ⟨rfl,hb⟩;replace J:=Aside0.mk (J.out.below hb);replace MU:=Aside0.mk (MU.out.keep (hb.block gM (by obtain⟨n,D,⟨⟨es,ck,h,_⟩,_⟩,_⟩:=MU.out;exact(Array.getElem?_eq_some_iff.1 h).1)));replace TN:=Aside0.mk (TN.out.trans (Turn.of_below hb));replace BK3:=Aside0.mk (blk_below BK3.out hb);clear hb))
     have hse:co+i=l.sure cake shelf:=by rw [HST.out,if_pos HD.out]
     rw [hse]
     clear hse hwi hwj hdb
     replace BK3:=Aside0.mk (blk_drew BK3.out)
     have hbd_:Below wd0.heap.size wd0 wd0.drew:=below_drew1 (Below.refl _ _)
     replace J:=Aside0.mk (J.out.below hbd_)
     replace MU:=Aside0.mk (show MemoU wd0.drew gM l.sure cake shelf from MU.out)
     replace TN:=Aside0.mk (TN.out.trans (Turn.of_below hbd_))
     clear hbd_
     have HM:=memo_update MU.out k0 (by omega) s0 (by omega) SM0.out.1 (by have:=SM0.out.2;omega)
     refine start_ (n:=7) (S:=fun w'=>w'.cell? ⟨gW,7,none⟩=some (.map (some gM))∧w'.cell? ⟨g3,0,none⟩=some (.int .i64 cake)∧w'.cell? ⟨g3,1,none⟩=some (.int .i64 shelf)) (ds:= [6]) #[false,false,false,false,false,false,false] (by kernel_rfl) rfl rfl ⟨(blk_cell J.out.work.bW 7).trans rfl,(blk_cell BK3.out 0).trans rfl,(blk_cell BK3.out 1).trans rfl⟩ (fun hHeld=> ?_)
     generalize wd0.drew=wd at BK3 J MU TN HM hHeld ⊢
     refine pure_ (i:=0) (N:=some 50) (v:= ?_) (a':= ?_) #[true,false,false,false,false,false,false] rfl rfl (by kernel_rfl) (fun _ _ _ h=>h) (Or.inl ⟨by rfl,?_⟩) ?_ ?_
     rotate_left
     ·intro w'
      go_simp
      with_reducible rfl
     rotate_left
     ·simp only [Act.put,List.setIfInBounds_toArray,List.set_cons_zero,List.set_cons_succ];rfl
     refine pure_ (i:=1) (N:=some 51) (v:= ?_) (a':= ?_) #[true,true,false,false,false,false,false] rfl rfl (by kernel_rfl) (fun _ _ _ h=>h) (Or.inl ⟨by rfl,?_⟩) ?_ ?_
     rotate_left
     ·intro w'
      go_simp
      with_reducible rfl
     rotate_left
     ·simp only [Act.put,List.setIfInBounds_toArray,List.set_cons_zero,List.set_cons_succ];rfl
     refine pure_ (i:=2) (N:=some 52) (v:= ?_) (a':= ?_) #[true,true,true,false,false,false,false] rfl rfl (by kernel_rfl) (fun _ _ _ h=>h) (Or.inl ⟨by rfl,?_⟩) ?_ ?_
     rotate_left
     ·intro w'
      go_simp
      with_reducible rfl
     rotate_left
     ·simp only [Act.put,List.setIfInBounds_toArray,List.set_cons_zero,List.set_cons_succ];rfl
     refine take_ (i:=3) (N:=some 53) (v:= ?_) (a':= ?_) #[true,true,true,true,false,false,false] rfl rfl (by kernel_rfl) (fun _ _ _ h=>h) (Or.inl ⟨by rfl,?_⟩) hHeld ?_ ?_
     rotate_left
     ·rintro w' ⟨s0,s1,s2⟩
      go_simp
      with_reducible rfl
     rotate_left
     ·simp only [Act.put,List.setIfInBounds_toArray,List.set_cons_zero,List.set_cons_succ];rfl
     refine take_ (i:=4) (N:=some 54) (v:= ?_) (a':= ?_) #[true,true,true,true,true,false,false] rfl rfl (by kernel_rfl) (fun _ _ _ h=>h) (Or.inl ⟨by rfl,?_⟩) hHeld ?_ ?_
     rotate_left
     ·rintro w' ⟨s0,s1,s2⟩
      go_simp
      with_reducible rfl
     rotate_left
     ·simp only [Act.put,List.setIfInBounds_toArray,List.set_cons_zero,List.set_cons_succ];rfl
     refine pure_ (i:=5) (N:=some 55) (v:= ?_) (a':= ?_) #[true,true,true,true,true,true,false] rfl rfl (by kernel_rfl) (fun _ _ _ h=>h) (Or.inl ⟨by rfl,?_⟩) ?_ ?_
     rotate_left
     ·intro w'
      go_simp
      with_reducible rfl
     rotate_left
     ·simp only [Act.put,List.setIfInBounds_toArray,List.set_cons_zero,List.set_cons_succ];rfl
     refine last_ (i:=6) (N:=none) #[true,true,true,true,true,true,true] rfl rfl (by kernel_rfl) (by decide) (fun K hK=> ?_)
     obtain⟨w9,hrun,hm9,hg9⟩:=HM
     refine skip_ (w1:= ?_) (by rfl) rfl ?_ ?_
     rotate_left
     ·go_simp
      rfl
     refine hK.out _ _ ?_
     clear hK K hrun
     refine done_ (by kernel_rfl) ?_
     go_wp2
     go_ret
     exact⟨rfl,J.out.turn (turn_grown hg9),hm9,TN.out.trans (turn_grown hg9)⟩
    ·have hdb:(dv==1)=false:=by rw [beq_eq_false_iff_ne];exact hd
     have HD:=Aside0.mk hd
     clear hd
     go_wp2_with (go_at_call 80;go_must (refine HC.out.mono ?_;clear f30 f31;rintro e wd0 ⟨rfl,hb⟩;replace J:=Aside0.mk (J.out.below hb);replace MU:=Aside0.mk (MU.out.keep (hb.block gM (by obtain⟨n,D,⟨⟨es,ck,h,_⟩,_⟩,_⟩:=MU.out;exact(Array.getElem?_eq_some_iff.1 h).1)));replace TN:=Aside0.mk (TN.out.trans (Turn.of_below hb));replace BK3:=Aside0.mk (blk_below BK3.out hb);clear hb))
     exact⟨⟨i+1,rfl,rfl,by omega,by omega,⟨by rw [HST.out,if_neg HD.out]⟩,J,MU,TN,BK3⟩,by simp [intOf];omega⟩
   ·have hie:i=l.a0-co+1:=by omega
    have HS2:=Aside0.mk (show l.sure cake shelf=12 by rw [←HS.out,hie,Int.sub_self];rfl)
    clear HS hie
    go_wp2
    rw [←HS2.out]
    replace BK3:=Aside0.mk (blk_drew BK3.out)
    have hbd_:Below wr.heap.size wr wr.drew:=below_drew1 (Below.refl _ _)
    replace J:=Aside0.mk (J.out.below hbd_)
    replace MU:=Aside0.mk (show MemoU wr.drew gM l.sure cake shelf from MU.out)
    replace TN:=Aside0.mk (TN.out.trans (Turn.of_below hbd_))
    clear hbd_
    have HM:=memo_update MU.out k0 (by omega) s0 (by omega) SM0.out.1 (by have:=SM0.out.2;omega)
    refine start_ (n:=7) (S:=fun w'=>w'.cell? ⟨gW,7,none⟩=some (.map (some gM))∧w'.cell? ⟨g3,0,none⟩=some (.int .i64 cake)∧w'.cell? ⟨g3,1,none⟩=some (.int .i64 shelf)) (ds:= [6]) #[false,false,false,false,false,false,false] (by kernel_rfl) rfl rfl ⟨(blk_cell J.out.work.bW 7).trans rfl,(blk_cell BK3.out 0).trans rfl,(blk_cell BK3.out 1).trans rfl⟩ (fun hHeld=> ?_)
    generalize wr.drew=wd at BK3 J MU TN HM hHeld ⊢
    refine pure_ (i:=0) (N:=some 50) (v:= ?_) (a':= ?_) #[true,false,false,false,false,false,false] rfl rfl (by kernel_rfl) (fun _ _ _ h=>h) (Or.inl ⟨by rfl,?_⟩) ?_ ?_
    rotate_left
    ·intro w'
     go_simp
     with_reducible rfl
    rotate_left
    ·simp only [Act.put,List.setIfInBounds_toArray,List.set_cons_zero,List.set_cons_succ];rfl
    refine pure_ (i:=1) (N:=some 51) (v:= ?_) (a':= ?_) #[true,true,false,false,false,false,false] rfl rfl (by kernel_rfl) (fun _ _ _ h=>h) (Or.inl ⟨by rfl,?_⟩) ?_ ?_
    rotate_left
    ·intro w'
     go_simp
     with_reducible rfl
    rotate_left
    ·simp only [Act.put,List.setIfInBounds_toArray,List.set_cons_zero,List.set_cons_succ];rfl
    refine pure_ (i:=2) (N:=some 52) (v:= ?_) (a':= ?_) #[true,true,true,false,false,false,false] rfl rfl (by kernel_rfl) (fun _ _ _ h=>h) (Or.inl ⟨by rfl,?_⟩) ?_ ?_
    rotate_left
    ·intro w'
     go_simp
     with_reducible rfl
    rotate_left
    ·simp only [Act.put,List.setIfInBounds_toArray,List.set_cons_zero,List.set_cons_succ];rfl
    refine take_ (i:=3) (N:=some 53) (v:= ?_) (a':= ?_) #[true,true,true,true,false,false,false] rfl rfl (by kernel_rfl) (fun _ _ _ h=>h) (Or.inl ⟨by rfl,?_⟩) hHeld ?_ ?_
    rotate_left
    ·rintro w' ⟨s0,s1,s2⟩
     go_simp
     with_reducible rfl
    rotate_left
    ·simp only [Act.put,List.setIfInBounds_toArray,List.set_cons_zero,List.set_cons_succ];rfl
    refine take_ (i:=4) (N:=some 54) (v:= ?_) (a':= ?_) #[true,true,true,true,true,false,false] rfl rfl (by kernel_rfl) (fun _ _ _ h=>h) (Or.inl ⟨by rfl,?_⟩) hHeld ?_ ?_
    rotate_left
    ·rintro w' ⟨s0,s1,s2⟩
     go_simp
     with_reducible rfl
    rotate_left
    ·simp only [Act.put,List.setIfInBounds_toArray,List.set_cons_zero,List.set_cons_succ];rfl
    refine pure_ (i:=5) (N:=some 55) (v:= ?_) (a':= ?_) #[true,true,true,true,true,true,false] rfl rfl (by kernel_rfl) (fun _ _ _ h=>h) (Or.inl ⟨by rfl,?_⟩) ?_ ?_
    rotate_left
    ·intro w'
     go_simp
     with_reducible rfl
    rotate_left
    ·simp only [Act.put,List.setIfInBounds_toArray,List.set_cons_zero,List.set_cons_succ];rfl
    refine last_ (i:=6) (N:=none) #[true,true,true,true,true,true,true] rfl rfl (by kernel_rfl) (by decide) (fun K hK=> ?_)
    obtain⟨w9,hrun,hm9,hg9⟩:=HM
    refine skip_ (w1:= ?_) (by rfl) rfl ?_ ?_
    rotate_left
    ·go_simp
     rfl
    refine hK.out _ _ ?_
    clear hK K hrun
    refine done_ (by kernel_rfl) ?_
    go_wp2
    go_ret
    exact⟨rfl,J.out.turn (turn_grown hg9),hm9,TN.out.trans (turn_grown hg9)⟩
 ·have hlk:∀n,(Instr.lookup 167 (.map (some gM)) (.agg #[.int .i64 cake,.int .i64 shelf]) true).run Try.prog (w3.drewN n)= .ok (.tuple #[.int .i64 (l.sure cake shelf),.bool true]) (w3.drewN n):=fun n=>hrun _ rfl
  clear hrun
  go_quiet (fail)
  have hb_:=pw_below_drewN (Below.refl w3.heap.size w3) nq
  go_wp2
  go_ret
  exact⟨rfl,J.out.below hb_,HM.out.keep rfl,TN.out.trans (Turn.of_below hb_)⟩
end Go.Proofs.Ytjifalohjlihaaa.Q
end
section
namespace Go.Proofs.Ytjifalohjlihaaa.Q
set_option linter.unusedVariables false
open Go.BigFrame Go.RowKit Go.Shelf Go.Proofs.YtjifalohjlihaaaW.PrintWords Go.Proofs.YtjifalohjlihaaaW.PrintLast Go.Proofs.YtjifalohjlihaaaW.PrintMore
def SL.good (l:SL) (cake shelf:Int):Int:=if l.sure cake shelf <(rd_T126 l.l3 cake).f0+(rd_T126 l.l3 cake).f2 then l.sure cake shelf else 12
set_option maxRecDepth 100000 in
set_option maxHeartbeats 6400000 in
theorem good.calls (x:SA) (l:SL) (gW gM:Nat) (A7:Option Addr) (c7:Nat) (cake shelf:Int) (w0 w:World) (hJ:Job w0 w x l gW gM A7 c7) (hM:l.Days w gM) (hf:l.fault=0) (hs:Spot l cake shelf):
  Calls Try.prog 85 #[.pointer (some ⟨gW,0,none⟩),.agg #[.int .i64 cake,.int .i64 shelf]] w fun e w'=>e= .returned (.int .i64 (l.good cake shelf))∧Job w0 w' x l gW gM A7 c7∧l.Days w' gM∧Turn (fun k=>k=gM) w w':=by
 have hv:=valid_of hf
 have hc:=hv.cakes cake hs.k0 hs.k1
 obtain⟨co0,co1,_,_,_,ke0,ke1⟩:=hc
 have la5:=hv.last5
 obtain⟨k0,k1,s0,s1⟩:=hs
 have SM0:=Aside0.mk (sure_small hv (⟨k0,k1,s0,s1⟩:Spot l cake shelf))
 obtain⟨A1,c1,A2,c2,A3,c3,A4,c4,A5,c5⟩:=x
 have J:=Aside0.mk hJ
 have HM:=Aside0.mk hM
 have HF:=Aside0.mk hf
 have HB:=Aside0.mk (Below.refl w.heap.size w)
 obtain⟨cf0,hf0⟩:∃v,v=(rd_T126 l.l3 cake).f0:=⟨_,rfl⟩
 obtain⟨cf1,hf1⟩:∃v,v=(rd_T126 l.l3 cake).f1.f0:=⟨_,rfl⟩
 obtain⟨cf2,hf2⟩:∃v,v=(rd_T126 l.l3 cake).f1.f1:=⟨_,rfl⟩
 obtain⟨cf3,hf3⟩:∃v,v=(rd_T126 l.l3 cake).f2:=⟨_,rfl⟩
 have hgood:l.good cake shelf=if l.sure cake shelf < cf0+cf3 then l.sure cake shelf else 12:=by rw [hf0,hf3];rfl
 have HG:=Aside0.mk hgood
 rw [←hf0]at co0 co1
 rw [←hf3]at ke0 ke1
 clear hJ hM hv hf hgood
 go_enter Try.func85,Try.ntmps85
 go_upto_region 1 with(first|((with_reducible refine gate_dst (N:=3) rfl ?_);refine box_event ?hg (N:=3) ?hd (cs:=#[.int .i64 cake,.int .i64 shelf]) (t:=134) ?hr ?_;(case hd=>rfl);(case hg=>rfl);(case hr=>first|(go_simp;done)|(go_simp;rfl));intro g3 hg_ w3 hbx_ hb_;have BK3:=Aside0.mk hbx_;have g3ge:w.heap.size≤g3:=(by have:=below_size HB.out;omega);have g3GE:=Aside0.mk g3ge;clear g3ge;have HBn:=Aside0.mk (below_step HB.out hb_);clear HB hg_ hb_ hbx_;have HB:=HBn;clear HBn))
 have hb3:=below_drew1 HB.out
 replace J:=Aside0.mk (J.out.below hb3)
 replace HM:=Aside0.mk (HM.out.keep (hb3.block gM HM.out.lt))
 have TN:=Aside0.mk (Turn.of_below (Own:=fun k=>k=gM) hb3)
 replace BK3:=Aside0.mk (blk_drew BK3.out)
 clear hb3 HB
 obtain⟨ad3,e3,fC0,fC1,fC2,fC3⟩:=at_T126 J.out.work.rd.r3 cake k0 k1
 simp only at e3
 subst e3
 rw [←hf0]at fC0
 rw [←hf1]at fC1
 rw [←hf2]at fC2
 rw [←hf3]at fC3
 clear hf0 hf1 hf2 hf3
 refine start_ (n:=11) (S:=fun w'=>w'.cell? ⟨gW,3,none⟩=some (.slice (some ad3) l.l3.length c3)∧w'.cell? ⟨g3,0,none⟩=some (.int .i64 cake)∧w'.cell? ⟨g3,1,none⟩=some (.int .i64 shelf)∧w'.cell? (ad3.add (cake.toNat*4))=some (.int .i64 cf0)∧w'.cell? ⟨(ad3.add (cake.toNat*4)).block,(ad3.add (cake.toNat*4)).off+1,none⟩=some (.int .i64 cf1)∧w'.cell? ⟨(ad3.add (cake.toNat*4)).block,(ad3.add (cake.toNat*4)).off+2,none⟩=some (.int .i64 cf2)∧w'.cell? ⟨(ad3.add (cake.toNat*4)).block,(ad3.add (cake.toNat*4)).off+3,none⟩=some (.int .i64 cf3)) (ds:= [10]) #[false,false,false,false,false,false,false,false,false,false,false] (by kernel_rfl) rfl rfl ⟨(blk_cell J.out.work.bW 3).trans rfl,(blk_cell BK3.out 0).trans rfl,(blk_cell BK3.out 1).trans rfl,fC0,fC1,fC2,fC3⟩ (fun hHeld=> ?_)
 generalize w3.drew=wd at BK3 J HM TN fC0 fC1 fC2 fC3 hHeld ⊢
 refine pure_ (i:=0) (N:=some 7) (v:= ?_) (a':= ?_) #[true,false,false,false,false,false,false,false,false,false,false] rfl rfl (by kernel_rfl) (fun _ _ _ h=>h) (Or.inl ⟨by rfl,?_⟩) ?_ ?_
 rotate_left
 ·intro w'
  go_simp
  with_reducible rfl
 rotate_left
 ·simp only [Act.put,List.setIfInBounds_toArray,List.set_cons_zero,List.set_cons_succ];rfl
 refine pure_ (i:=1) (N:=some 8) (v:= ?_) (a':= ?_) #[true,true,false,false,false,false,false,false,false,false,false] rfl rfl (by kernel_rfl) (fun _ _ _ h=>h) (Or.inl ⟨by rfl,?_⟩) ?_ ?_
 rotate_left
 ·intro w'
  go_simp
  with_reducible rfl
 rotate_left
 ·simp only [Act.put,List.setIfInBounds_toArray,List.set_cons_zero,List.set_cons_succ];rfl
 refine pure_ (i:=2) (N:=some 9) (v:= ?_) (a':= ?_) #[true,true,true,false,false,false,false,false,false,false,false] rfl rfl (by kernel_rfl) (fun _ _ _ h=>h) (Or.inl ⟨by rfl,?_⟩) ?_ ?_
 rotate_left
 ·intro w'
  go_simp
  with_reducible rfl
 rotate_left
 ·simp only [Act.put,List.setIfInBounds_toArray,List.set_cons_zero,List.set_cons_succ];rfl
 refine pure_ (i:=3) (N:=some 10) (v:= ?_) (a':= ?_) #[true,true,true,true,false,false,false,false,false,false,false] rfl rfl (by kernel_rfl) (fun _ _ _ h=>h) (Or.inl ⟨by rfl,?_⟩) ?_ ?_
 rotate_left
 ·intro w'
  go_simp
  with_reducible rfl
 rotate_left
 ·simp only [Act.put,List.setIfInBounds_toArray,List.set_cons_zero,List.set_cons_succ];rfl
 refine take_ (i:=4) (N:=some 11) (v:= ?_) (a':= ?_) #[true,true,true,true,true,false,false,false,false,false,false] rfl rfl (by kernel_rfl) (fun _ _ _ h=>h) (Or.inl ⟨by rfl,?_⟩) hHeld ?_ ?_
 rotate_left
 ·rintro w' ⟨s0,s1,s2,s3,s4,s5,s6⟩
  go_simp
  with_reducible rfl
 rotate_left
 ·simp only [Act.put,List.setIfInBounds_toArray,List.set_cons_zero,List.set_cons_succ];rfl
 refine pure_ (i:=5) (N:=some 12) (v:= ?_) (a':= ?_) #[true,true,true,true,true,true,false,false,false,false,false] rfl rfl (by kernel_rfl) (fun _ _ _ h=>h) (Or.inl ⟨by rfl,?_⟩) ?_ ?_
 rotate_left
 ·intro w'
  go_simp
  with_reducible rfl
 rotate_left
 ·simp only [Act.put,List.setIfInBounds_toArray,List.set_cons_zero,List.set_cons_succ];rfl
 refine take_ (i:=6) (N:=some 13) (v:= ?_) (a':= ?_) #[true,true,true,true,true,true,true,false,false,false,false] rfl rfl (by kernel_rfl) (fun _ _ _ h=>h) (Or.inl ⟨by rfl,?_⟩) hHeld ?_ ?_
 rotate_left
 ·rintro w' ⟨s0,s1,s2,s3,s4,s5,s6⟩
  go_simp
  with_reducible rfl
 rotate_left
 ·simp only [Act.put,List.setIfInBounds_toArray,List.set_cons_zero,List.set_cons_succ];rfl
 refine take_ (i:=7) (N:=some 14) (v:= ?_) (a':= ?_) #[true,true,true,true,true,true,true,true,false,false,false] rfl rfl (by kernel_rfl) (fun _ _ _ h=>h) (Or.inl ⟨by rfl,?_⟩) hHeld ?_ ?_
 rotate_left
 ·rintro w' ⟨s0,s1,s2,s3,s4,s5,s6⟩
  go_simp
  with_reducible rfl
 rotate_left
 ·simp only [Act.put,List.setIfInBounds_toArray,List.set_cons_zero,List.set_cons_succ];rfl
 refine take_ (i:=8) (N:=some 15) (v:= ?_) (a':= ?_) #[true,true,true,true,true,true,true,true,true,false,false] rfl rfl (by kernel_rfl) (fun _ _ _ h=>h) (Or.inl ⟨by rfl,?_⟩) hHeld ?_ ?_
 rotate_left
 ·rintro w' ⟨s0,s1,s2,s3,s4,s5,s6⟩
  go_simp
  with_reducible rfl
 rotate_left
 ·simp only [Act.put,List.setIfInBounds_toArray,List.set_cons_zero,List.set_cons_succ];rfl
 refine one_ (i:=9) (N:=some 5) #[true,true,true,true,true,true,true,true,true,true,false] rfl rfl (by kernel_rfl) (by decide) (fun K hK=> ?_)
 refine value_ (w1:= ?_) (v:= ?_) (by rfl) rfl ?_ ?_
 rotate_left 2
 ·go_simp
  constructor
  ·rfl
  ·rfl
 refine hK.out _ _ ⟨(blk_cell (blk_alloc J.out.work.bW _) 3).trans rfl,(blk_cell (blk_alloc BK3.out _) 0).trans rfl,(blk_cell (blk_alloc BK3.out _) 1).trans rfl,((World.cell?_alloc_lt _ _ _ (World.block_lt_of_cell? _ _ fC0)).trans fC0),((World.cell?_alloc_lt _ _ _ (World.block_lt_of_cell? _ _ fC1)).trans fC1),((World.cell?_alloc_lt _ _ _ (World.block_lt_of_cell? _ _ fC2)).trans fC2),((World.cell?_alloc_lt _ _ _ (World.block_lt_of_cell? _ _ fC3)).trans fC3)⟩ (fun hHeld=> ?_)
 clear hK K
 refine norm_ (a':= ?_) ?_ ?_
 rotate_left
 ·show Act.put _ (some 5) _=_;simp only [Act.put,List.setIfInBounds_toArray,List.set_cons_zero,List.set_cons_succ];rfl
 refine last_ (i:=10) (N:=none) #[true,true,true,true,true,true,true,true,true,true,true] rfl rfl (by kernel_rfl) (by decide) (fun K hK=> ?_)
 refine skip_ (w1:= ?_) (by rfl) rfl ?_ ?_
 rotate_left
 ·go_simp
  rfl
 refine hK.out _ _ ?_
 clear hK K
 refine done_ (by kernel_rfl) ?_
 obtain⟨g5,hg5⟩:∃g,g=wd.heap.size:=⟨_,rfl⟩
 obtain⟨w5,hw5⟩:∃w_,w_=World.alloc wd (Obj.cells #[.int .i64 cf0,.int .i64 cf1,.int .i64 cf2,.int .i64 cf3] 126 (0,0)):=⟨_,rfl⟩
 have hb5:Below wd.heap.size wd w5:=by rw [hw5];exact below_alloc (Below.refl _ _) _
 have BK5:=Aside0.mk (show w5.heap[g5]? =some (.cells #[.int .i64 cf0,.int .i64 cf1,.int .i64 cf2,.int .i64 cf3] 126 (0,0))by rw [hw5,hg5];exact blk_new _ _)
 replace J:=Aside0.mk (J.out.below hb5)
 replace HM:=Aside0.mk (HM.out.keep (hb5.block gM HM.out.lt))
 replace TN:=Aside0.mk (TN.out.trans (Turn.of_below hb5))
 replace BK3:=Aside0.mk (blk_below BK3.out hb5)
 have G5:=Aside0.mk (show gM≠g5 from fun e=>by have h_:=BK5.out;rw [←e]at h_;obtain⟨n,D,⟨es,ck,hb,_⟩,_⟩:=HM.out;rw [hb]at h_;cases h_)
 rw [←hw5,←hg5]
 clear hw5 hg5 hb5 fC0 fC1 fC2 fC3 hHeld
 have f30:w5.cell? ⟨g3,0,none⟩=some (.int .i64 cake):=(blk_cell BK3.out 0).trans rfl
 have f31:w5.cell? ⟨g3,1,none⟩=some (.int .i64 shelf):=(blk_cell BK3.out 1).trans rfl
 obtain⟨d,hd⟩:∃d,d=l.sure cake shelf:=⟨_,rfl⟩
 have hcall:Calls Try.prog 83 #[.pointer (some ⟨gW,0,none⟩),.agg #[.int .i64 cake,.int .i64 shelf]] w5 fun e w'=>e= .returned (.int .i64 d)∧Job w0 w' ⟨A1,c1,A2,c2,some ad3,c3,A4,c4,A5,c5⟩ l gW gM A7 c7∧l.Days w' gM∧Turn (fun k=>k=gM) w5 w':=by
  rw [hd];exact sure.calls _ l gW gM A7 c7 cake shelf w0 w5 J.out HM.out HF.out ⟨k0,k1,s0,s1⟩
 have HC:=Aside0.mk hcall
 rw [←hd]at HG SM0
 have hwr:IntKind.i64.wrap (cf0+cf3)=cf0+cf3:=IntWalk.i64_in _ (by omega)
 clear hcall hd
 by_cases hlt:d < cf0+cf3
 ·have hdb:decide (d < cf0+cf3)=true:=decide_eq_true hlt
  have HLT:=Aside0.mk hlt
  clear hlt
  go_wp2_with (go_at_call 83;go_must (refine HC.out.mono ?_;clear f30 f31;rintro e w6 ⟨rfl,hj,hm,ht⟩;have BK5b:=ht.blk BK5.out (fun e=>G5.out e.symm);have f50:w6.cell? ⟨g5,0,none⟩=some (.int .i64 cf0):=(blk_cell BK5b 0).trans rfl;have f52:w6.cell? ⟨g5,3,none⟩=some (.int .i64 cf3):=(blk_cell BK5b 3).trans rfl;replace TN:=Aside0.mk (TN.out.trans ht);replace J:=Aside0.mk hj;replace HM:=Aside0.mk hm;clear hj hm ht))
  go_ret
  exact⟨by rw [HG.out,if_pos HLT.out];rfl,J.out,HM.out,TN.out⟩
 ·have hdb:decide (d < cf0+cf3)=false:=decide_eq_false hlt
  have HLT:=Aside0.mk hlt
  have hlt2:cf0+cf3≤d:=by omega
  clear hlt
  go_wp2_with (go_at_call 83;go_must (refine HC.out.mono ?_;clear f30 f31;rintro e w6 ⟨rfl,hj,hm,ht⟩;have BK5b:=ht.blk BK5.out (fun e=>G5.out e.symm);have f50:w6.cell? ⟨g5,0,none⟩=some (.int .i64 cf0):=(blk_cell BK5b 0).trans rfl;have f52:w6.cell? ⟨g5,3,none⟩=some (.int .i64 cf3):=(blk_cell BK5b 3).trans rfl;replace TN:=Aside0.mk (TN.out.trans ht);replace J:=Aside0.mk hj;replace HM:=Aside0.mk hm;clear hj hm ht))
  go_ret
  exact⟨by rw [HG.out,if_neg (Int.not_lt.2 HLT.out)];rfl,J.out,HM.out,TN.out⟩
end Go.Proofs.Ytjifalohjlihaaa.Q
end
section
namespace Go.Proofs.Ytjifalohjlihaaa.Q
set_option linter.unusedVariables false
open Go.BigFrame Go.RowKit Go.Shelf Go.Proofs.YtjifalohjlihaaaW.PrintWords Go.Proofs.YtjifalohjlihaaaW.PrintLast Go.Proofs.YtjifalohjlihaaaW.PrintMore
theorem always_enter (w:World):(callFunc 109 #[]).run Try.prog w= .ok (.enter 109 #[]) w:=enters_ Try.func109 (by kernel_rfl) rfl _ w
theorem always_call (w:World):Calls Try.prog 109 #[] w fun e w'=>e= .returned (.bool true)∧Below w.heap.size w w':=
 (shelf_always.calls true w rfl).mono (fun e w' hh=>⟨hh.1,by obtain⟨nd,rfl⟩:=hh.2;exact pw_below_drewN (Below.refl _ _) nd⟩)
structure Boxes (w:World) (x:SA) (l:SL) (B:Option Addr) (cB:Nat) (place:List Int) (g0 g1:Nat):Prop where
 rd:Rd w x l
 s3:l.l2.length≤3
 c5:l.l3.length≤5
 row:Kd.C (Kd.int .i64) w B place.length place
 b0:w.heap[g0]? =some (.cells (x.cells l) 39 (0,0))
 b1:w.heap[g1]? =some (.cells #[.slice B place.length cB] 25 (0,0))
theorem Boxes.below {w w':World} {x:SA} {l:SL} {B:Option Addr} {cB:Nat} {place:List Int} {g0 g1:Nat} (h:Boxes w x l B cB place g0 g1) (hb:Below w.heap.size w w'):Boxes w' x l B cB place g0 g1:=
 ⟨h.rd.below hb,h.s3,h.c5,Kd.C_below h.row hb,blk_below h.b0 hb,blk_below h.b1 hb⟩
set_option maxRecDepth 100000 in
set_option maxHeartbeats 3200000 in
theorem left1_call (x:SA) (l:SL) (B:Option Addr) (cB:Nat) (place:List Int) (g0 g1 g2:Nat) (cake:Int) (w:World) (hx:Boxes w x l B cB place g0 g1) (h2:w.heap[g2]? =some (.cells #[.int .i64 cake] 3 (0,0))):
  Calls Try.prog 73 #[.pointer (some ⟨g0,0,none⟩),.pointer (some ⟨g1,0,none⟩),.pointer (some ⟨g2,0,none⟩)] w fun e w'=>e= .returned (.bool (decide (l.isPlace place)&&l.is cake))∧Below w.heap.size w w':=by
 obtain⟨A1,c1,A2,c2,A3,c3,A4,c4,A5,c5⟩:=x
 have HX:=Aside0.mk hx
 have HB:=Aside0.mk (Below.refl w.heap.size w)
 have f0:w.cell? ⟨g0,0,none⟩=some (.int .i64 l.a0):=(blk_cell HX.out.b0 0).trans rfl
 have f1:w.cell? ⟨g0,1,none⟩=some (.slice A1 l.l1.length c1):=(blk_cell HX.out.b0 1).trans rfl
 have f2:w.cell? ⟨g0,2,none⟩=some (.slice A2 l.l2.length c2):=(blk_cell HX.out.b0 2).trans rfl
 have f3:w.cell? ⟨g0,3,none⟩=some (.slice A3 l.l3.length c3):=(blk_cell HX.out.b0 3).trans rfl
 have f4:w.cell? ⟨g0,4,none⟩=some (.slice A4 l.l4.length c4):=(blk_cell HX.out.b0 4).trans rfl
 have f5:w.cell? ⟨g0,5,none⟩=some (.slice A5 l.l5.length c5):=(blk_cell HX.out.b0 5).trans rfl
 have fB:w.cell? ⟨g1,0,none⟩=some (.slice B place.length cB):=(blk_cell HX.out.b1 0).trans rfl
 clear hx
 have H2:=Aside0.mk h2
 clear h2
 have f9:w.cell? ⟨g2,0,none⟩=some (.int .i64 cake):=(blk_cell H2.out 0).trans rfl
 go_enter Try.func73,Try.ntmps73
 by_cases hp:l.isPlace place
 ·have hpb:decide (l.isPlace place)=true:=decide_eq_true hp
  clear hp
  obtain⟨v,hv⟩:∃v,v=l.is cake:=⟨_,rfl⟩
  have HV:=Aside0.mk hv
  clear hv
  go_wp2_with (first|(go_at_call 74;go_must (refine(L_isPlace.calls ⟨A1,c1,A2,c2,A3,c3,A4,c4,A5,c5⟩ l B cB place _ HX.out.rd HX.out.s3 HX.out.c5 HX.out.row).mono ?_;clear f0 f1 f2 f3 f4 f5 fB f9;rintro e w2 ⟨rfl,hb⟩;have HX2:=Aside0.mk (HX.out.below hb);have HB2:=Aside0.mk (below_step HB.out hb);have f0:w2.cell? ⟨g0,0,none⟩=some (.int .i64 l.a0):=(blk_cell HX2.out.b0 0).trans rfl;have f1:w2.cell? ⟨g0,1,none⟩=some (.slice A1 l.l1.length c1):=(blk_cell HX2.out.b0 1).trans rfl;have f2:w2.cell? ⟨g0,2,none⟩=some (.slice A2 l.l2.length c2):=(blk_cell HX2.out.b0 2).trans rfl;have f3:w2.cell? ⟨g0,3,none⟩=some (.slice A3 l.l3.length c3):=(blk_cell HX2.out.b0 3).trans rfl;have f4:w2.cell? ⟨g0,4,none⟩=some (.slice A4 l.l4.length c4):=(blk_cell HX2.out.b0 4).trans rfl;have f5:w2.cell? ⟨g0,5,none⟩=some (.slice A5 l.l5.length c5):=(blk_cell HX2.out.b0 5).trans rfl;replace H2:=Aside0.mk (blk_below H2.out hb);have f9:w2.cell? ⟨g2,0,none⟩=some (.int .i64 cake):=(blk_cell H2.out 0).trans rfl;clear hb))|(go_at_call 75;go_must (refine(is_call ⟨A1,c1,A2,c2,A3,c3,A4,c4,A5,c5⟩ l cake _ HX2.out.rd (Nat.le_trans HX2.out.c5 (by decide))).mono ?_;rw [←HV.out];rintro e w3 ⟨rfl,hb⟩;have HB3:=Aside0.mk (below_step HB2.out hb);clear hb f0 f1 f2 f3 f4 f5 f9)))
  go_ret
  exact⟨by simp [hpb,HV.out],HB3.out⟩
 ·have hpb:decide (l.isPlace place)=false:=decide_eq_false hp
  clear hp
  go_wp2_with (first|(go_at_call 74;go_must (refine(L_isPlace.calls ⟨A1,c1,A2,c2,A3,c3,A4,c4,A5,c5⟩ l B cB place _ HX.out.rd HX.out.s3 HX.out.c5 HX.out.row).mono ?_;clear f0 f1 f2 f3 f4 f5 fB f9;rintro e w2 ⟨rfl,hb⟩;have HX2:=Aside0.mk (HX.out.below hb);have HB2:=Aside0.mk (below_step HB.out hb);skip;clear hb)))
  go_ret
  exact⟨by simp [hpb],HB2.out⟩
set_option maxRecDepth 100000 in
set_option maxHeartbeats 3200000 in
theorem day1_call (x:SA) (l:SL) (B:Option Addr) (cB:Nat) (place:List Int) (g0 g1 g2:Nat) (cake:Int) (w:World) (hx:Boxes w x l B cB place g0 g1) (h2:w.heap[g2]? =some (.cells #[.int .i64 cake] 3 (0,0))):
  Calls Try.prog 82 #[.pointer (some ⟨g0,0,none⟩),.pointer (some ⟨g1,0,none⟩),.pointer (some ⟨g2,0,none⟩)] w fun e w'=>e= .returned (.bool (decide (l.isPlace place)&&l.is cake))∧Below w.heap.size w w':=by
 obtain⟨A1,c1,A2,c2,A3,c3,A4,c4,A5,c5⟩:=x
 have HX:=Aside0.mk hx
 have HB:=Aside0.mk (Below.refl w.heap.size w)
 have f0:w.cell? ⟨g0,0,none⟩=some (.int .i64 l.a0):=(blk_cell HX.out.b0 0).trans rfl
 have f1:w.cell? ⟨g0,1,none⟩=some (.slice A1 l.l1.length c1):=(blk_cell HX.out.b0 1).trans rfl
 have f2:w.cell? ⟨g0,2,none⟩=some (.slice A2 l.l2.length c2):=(blk_cell HX.out.b0 2).trans rfl
 have f3:w.cell? ⟨g0,3,none⟩=some (.slice A3 l.l3.length c3):=(blk_cell HX.out.b0 3).trans rfl
 have f4:w.cell? ⟨g0,4,none⟩=some (.slice A4 l.l4.length c4):=(blk_cell HX.out.b0 4).trans rfl
 have f5:w.cell? ⟨g0,5,none⟩=some (.slice A5 l.l5.length c5):=(blk_cell HX.out.b0 5).trans rfl
 have fB:w.cell? ⟨g1,0,none⟩=some (.slice B place.length cB):=(blk_cell HX.out.b1 0).trans rfl
 clear hx
 have H2:=Aside0.mk h2
 clear h2
 have f9:w.cell? ⟨g2,0,none⟩=some (.int .i64 cake):=(blk_cell H2.out 0).trans rfl
 go_enter Try.func82,Try.ntmps82
 by_cases hp:l.isPlace place
 ·have hpb:decide (l.isPlace place)=true:=decide_eq_true hp
  clear hp
  obtain⟨v,hv⟩:∃v,v=l.is cake:=⟨_,rfl⟩
  have HV:=Aside0.mk hv
  clear hv
  go_wp2_with (first|(go_at_call 74;go_must (refine(L_isPlace.calls ⟨A1,c1,A2,c2,A3,c3,A4,c4,A5,c5⟩ l B cB place _ HX.out.rd HX.out.s3 HX.out.c5 HX.out.row).mono ?_;clear f0 f1 f2 f3 f4 f5 fB f9;rintro e w2 ⟨rfl,hb⟩;have HX2:=Aside0.mk (HX.out.below hb);have HB2:=Aside0.mk (below_step HB.out hb);have f0:w2.cell? ⟨g0,0,none⟩=some (.int .i64 l.a0):=(blk_cell HX2.out.b0 0).trans rfl;have f1:w2.cell? ⟨g0,1,none⟩=some (.slice A1 l.l1.length c1):=(blk_cell HX2.out.b0 1).trans rfl;have f2:w2.cell? ⟨g0,2,none⟩=some (.slice A2 l.l2.length c2):=(blk_cell HX2.out.b0 2).trans rfl;have f3:w2.cell? ⟨g0,3,none⟩=some (.slice A3 l.l3.length c3):=(blk_cell HX2.out.b0 3).trans rfl;have f4:w2.cell? ⟨g0,4,none⟩=some (.slice A4 l.l4.length c4):=(blk_cell HX2.out.b0 4).trans rfl;have f5:w2.cell? ⟨g0,5,none⟩=some (.slice A5 l.l5.length c5):=(blk_cell HX2.out.b0 5).trans rfl;replace H2:=Aside0.mk (blk_below H2.out hb);have f9:w2.cell? ⟨g2,0,none⟩=some (.int .i64 cake):=(blk_cell H2.out 0).trans rfl;clear hb))|(go_at_call 75;go_must (refine(is_call ⟨A1,c1,A2,c2,A3,c3,A4,c4,A5,c5⟩ l cake _ HX2.out.rd (Nat.le_trans HX2.out.c5 (by decide))).mono ?_;rw [←HV.out];rintro e w3 ⟨rfl,hb⟩;have HB3:=Aside0.mk (below_step HB2.out hb);clear hb f0 f1 f2 f3 f4 f5 f9)))
  go_ret
  exact⟨by simp [hpb,HV.out],HB3.out⟩
 ·have hpb:decide (l.isPlace place)=false:=decide_eq_false hp
  clear hp
  go_wp2_with (first|(go_at_call 74;go_must (refine(L_isPlace.calls ⟨A1,c1,A2,c2,A3,c3,A4,c4,A5,c5⟩ l B cB place _ HX.out.rd HX.out.s3 HX.out.c5 HX.out.row).mono ?_;clear f0 f1 f2 f3 f4 f5 fB f9;rintro e w2 ⟨rfl,hb⟩;have HX2:=Aside0.mk (HX.out.below hb);have HB2:=Aside0.mk (below_step HB.out hb);skip;clear hb)))
  go_ret
  exact⟨by simp [hpb],HB2.out⟩
set_option maxRecDepth 100000 in
set_option maxHeartbeats 3200000 in
theorem dry1_call (x:SA) (l:SL) (B:Option Addr) (cB:Nat) (place:List Int) (g0 g1 g2 g3:Nat) (cake day:Int) (w:World) (hx:Boxes w x l B cB place g0 g1) (h2:w.heap[g2]? =some (.cells #[.int .i64 cake] 3 (0,0))) (h3:w.heap[g3]? =some (.cells #[.int .i64 day] 3 (0,0))):
  Calls Try.prog 78 #[.pointer (some ⟨g0,0,none⟩),.pointer (some ⟨g1,0,none⟩),.pointer (some ⟨g2,0,none⟩),.pointer (some ⟨g3,0,none⟩)] w fun e w'=>e= .returned (.bool (decide (l.isPlace place)&&l.day cake day))∧Below w.heap.size w w':=by
 obtain⟨A1,c1,A2,c2,A3,c3,A4,c4,A5,c5⟩:=x
 have HX:=Aside0.mk hx
 have HB:=Aside0.mk (Below.refl w.heap.size w)
 have f0:w.cell? ⟨g0,0,none⟩=some (.int .i64 l.a0):=(blk_cell HX.out.b0 0).trans rfl
 have f1:w.cell? ⟨g0,1,none⟩=some (.slice A1 l.l1.length c1):=(blk_cell HX.out.b0 1).trans rfl
 have f2:w.cell? ⟨g0,2,none⟩=some (.slice A2 l.l2.length c2):=(blk_cell HX.out.b0 2).trans rfl
 have f3:w.cell? ⟨g0,3,none⟩=some (.slice A3 l.l3.length c3):=(blk_cell HX.out.b0 3).trans rfl
 have f4:w.cell? ⟨g0,4,none⟩=some (.slice A4 l.l4.length c4):=(blk_cell HX.out.b0 4).trans rfl
 have f5:w.cell? ⟨g0,5,none⟩=some (.slice A5 l.l5.length c5):=(blk_cell HX.out.b0 5).trans rfl
 have fB:w.cell? ⟨g1,0,none⟩=some (.slice B place.length cB):=(blk_cell HX.out.b1 0).trans rfl
 clear hx
 have H2:=Aside0.mk h2
 have H3:=Aside0.mk h3
 clear h2 h3
 have f9:w.cell? ⟨g2,0,none⟩=some (.int .i64 cake):=(blk_cell H2.out 0).trans rfl
 have f10:w.cell? ⟨g3,0,none⟩=some (.int .i64 day):=(blk_cell H3.out 0).trans rfl
 go_enter Try.func78,Try.ntmps78
 by_cases hp:l.isPlace place
 ·have hpb:decide (l.isPlace place)=true:=decide_eq_true hp
  clear hp
  obtain⟨v,hv⟩:∃v,v=l.day cake day:=⟨_,rfl⟩
  have HV:=Aside0.mk hv
  clear hv
  go_wp2_with (first|(go_at_call 74;go_must (refine(L_isPlace.calls ⟨A1,c1,A2,c2,A3,c3,A4,c4,A5,c5⟩ l B cB place _ HX.out.rd HX.out.s3 HX.out.c5 HX.out.row).mono ?_;clear f0 f1 f2 f3 f4 f5 fB f9 f10;rintro e w2 ⟨rfl,hb⟩;have HX2:=Aside0.mk (HX.out.below hb);have HB2:=Aside0.mk (below_step HB.out hb);have f0:w2.cell? ⟨g0,0,none⟩=some (.int .i64 l.a0):=(blk_cell HX2.out.b0 0).trans rfl;have f1:w2.cell? ⟨g0,1,none⟩=some (.slice A1 l.l1.length c1):=(blk_cell HX2.out.b0 1).trans rfl;have f2:w2.cell? ⟨g0,2,none⟩=some (.slice A2 l.l2.length c2):=(blk_cell HX2.out.b0 2).trans rfl;have f3:w2.cell? ⟨g0,3,none⟩=some (.slice A3 l.l3.length c3):=(blk_cell HX2.out.b0 3).trans rfl;have f4:w2.cell? ⟨g0,4,none⟩=some (.slice A4 l.l4.length c4):=(blk_cell HX2.out.b0 4).trans rfl;have f5:w2.cell? ⟨g0,5,none⟩=some (.slice A5 l.l5.length c5):=(blk_cell HX2.out.b0 5).trans rfl;replace H2:=Aside0.mk (blk_below H2.out hb);replace H3:=Aside0.mk (blk_below H3.out hb);have f9:w2.cell? ⟨g2,0,none⟩=some (.int .i64 cake):=(blk_cell H2.out 0).trans rfl;have f10:w2.cell? ⟨g3,0,none⟩=some (.int .i64 day):=(blk_cell H3.out 0).trans rfl;clear hb))|(go_at_call 79;go_must (refine(day_call ⟨A1,c1,A2,c2,A3,c3,A4,c4,A5,c5⟩ l cake day _ HX2.out.rd (Nat.le_trans HX2.out.c5 (by decide))).mono ?_;rw [←HV.out];rintro e w3 ⟨rfl,hb⟩;have HB3:=Aside0.mk (below_step HB2.out hb);clear hb f0 f1 f2 f3 f4 f5 f9 f10)))
  go_ret
  exact⟨by simp [hpb,HV.out],HB3.out⟩
 ·have hpb:decide (l.isPlace place)=false:=decide_eq_false hp
  clear hp
  go_wp2_with (first|(go_at_call 74;go_must (refine(L_isPlace.calls ⟨A1,c1,A2,c2,A3,c3,A4,c4,A5,c5⟩ l B cB place _ HX.out.rd HX.out.s3 HX.out.c5 HX.out.row).mono ?_;clear f0 f1 f2 f3 f4 f5 fB f9 f10;rintro e w2 ⟨rfl,hb⟩;have HX2:=Aside0.mk (HX.out.below hb);have HB2:=Aside0.mk (below_step HB.out hb);skip;clear hb)))
  go_ret
  exact⟨by simp [hpb],HB2.out⟩
set_option maxRecDepth 100000 in
set_option maxHeartbeats 3200000 in
theorem stuck1_call (x:SA) (l:SL) (B:Option Addr) (cB:Nat) (place:List Int) (g0 g1:Nat) (w:World) (hx:Boxes w x l B cB place g0 g1):
  Calls Try.prog 84 #[.pointer (some ⟨g0,0,none⟩),.pointer (some ⟨g1,0,none⟩)] w fun e w'=>e= .returned (.bool (decide (l.isPlace place)))∧Below w.heap.size w w':=by
 obtain⟨A1,c1,A2,c2,A3,c3,A4,c4,A5,c5⟩:=x
 have HX:=Aside0.mk hx
 have HB:=Aside0.mk (Below.refl w.heap.size w)
 have f0:w.cell? ⟨g0,0,none⟩=some (.int .i64 l.a0):=(blk_cell HX.out.b0 0).trans rfl
 have f1:w.cell? ⟨g0,1,none⟩=some (.slice A1 l.l1.length c1):=(blk_cell HX.out.b0 1).trans rfl
 have f2:w.cell? ⟨g0,2,none⟩=some (.slice A2 l.l2.length c2):=(blk_cell HX.out.b0 2).trans rfl
 have f3:w.cell? ⟨g0,3,none⟩=some (.slice A3 l.l3.length c3):=(blk_cell HX.out.b0 3).trans rfl
 have f4:w.cell? ⟨g0,4,none⟩=some (.slice A4 l.l4.length c4):=(blk_cell HX.out.b0 4).trans rfl
 have f5:w.cell? ⟨g0,5,none⟩=some (.slice A5 l.l5.length c5):=(blk_cell HX.out.b0 5).trans rfl
 have fB:w.cell? ⟨g1,0,none⟩=some (.slice B place.length cB):=(blk_cell HX.out.b1 0).trans rfl
 clear hx
 go_enter Try.func84,Try.ntmps84
 obtain⟨v,hv⟩:∃v,v=decide (l.isPlace place):=⟨_,rfl⟩
 have HV:=Aside0.mk hv
 clear hv
 go_wp2_with (first|(go_at_call 74;go_must (refine(L_isPlace.calls ⟨A1,c1,A2,c2,A3,c3,A4,c4,A5,c5⟩ l B cB place _ HX.out.rd HX.out.s3 HX.out.c5 HX.out.row).mono ?_;clear f0 f1 f2 f3 f4 f5 fB;rintro e w2 ⟨rfl,hb⟩;have HB2:=Aside0.mk (below_step HB.out hb);clear hb)))
 go_ret
 exact⟨rfl,HB2.out⟩
set_option maxRecDepth 100000 in
theorem by1_call (x:SA) (l:SL) (day:Int) (g0 g1:Nat) (w:World) (h0:w.heap[g0]? =some (.cells #[.int .i64 day] 3 (0,0))) (h1:w.heap[g1]? =some (.cells (x.cells l) 39 (0,0))):
  Calls Try.prog 112 #[.pointer (some ⟨g0,0,none⟩),.pointer (some ⟨g1,0,none⟩)] w fun e w'=>e= .returned (.bool (decide (0≤day∧day≤l.a0)))∧Below w.heap.size w w':=by
 obtain⟨A1,c1,A2,c2,A3,c3,A4,c4,A5,c5⟩:=x
 have H0:=Aside0.mk h0
 have H1:=Aside0.mk h1
 have f0:w.cell? ⟨g0,0,none⟩=some (.int .i64 day):=(blk_cell H0.out 0).trans rfl
 have f1:w.cell? ⟨g1,0,none⟩=some (.int .i64 l.a0):=(blk_cell H1.out 0).trans rfl
 clear h0 h1
 go_enter Try.func112,Try.ntmps112
 go_wp2_with (first|(go_at_call 113;go_must (refine(shelf_within.calls day 0 l.a0 _ _ (within_some day 0 l.a0)).mono ?_;clear f0 f1;rintro e w2 ⟨rfl,⟨nd,rfl⟩⟩)))
 go_ret
 exact⟨by rw [Bool.decide_and];rfl,pw_below_drewN (Below.refl _ _) nd⟩
end Go.Proofs.Ytjifalohjlihaaa.Q
end
section
namespace Go.Proofs.Ytjifalohjlihaaa.Q
set_option linter.unusedVariables false
open Go.BigFrame Go.RowKit Go.Shelf Go.Proofs.YtjifalohjlihaaaW.PrintWords Go.Proofs.YtjifalohjlihaaaW.PrintLast Go.Proofs.YtjifalohjlihaaaW.PrintMore
theorem memo_new {Y:World} {gM:Nat} (f:Int→Int→Int) (h:Y.heap[gM]? =some (.map #[] 0)):Memo Y gM f:=
 ⟨0,.map [],⟨#[],0,h,⟨by simp,MapKept.stamped_empty 0,by simp⟩,Nat.le_refl _,rfl⟩,Nat.zero_le _,fun _ _ _ _ _ _=> .inl rfl⟩
theorem err_zero {l:SL} {b:Bool} (h:l.err b=0):l.fault=0∧b=true∧l.truths≠ []:=by
 unfold SL.err at h
 by_cases h1:l.fault≠0
 ·rw [if_pos h1]at h;exact absurd h h1
 ·rw [if_neg h1]at h
  by_cases h2:b=false
  ·rw [if_pos h2]at h;cases h
  ·rw [if_neg h2]at h
   by_cases h3:l.truths= []
   ·rw [if_pos h3]at h;cases h
   ·exact⟨Decidable.of_not_not h1,by simpa using h2,h3⟩
theorem job_of {x:SA} {l:SL} {b:Bool} {w Y:World} {e:Ending} (hr:Rd w x l) (h:Asked x l b w e Y):
  (l.err b≠0∧e= .returned (.tuple #[.pointer none,.int .i64 (l.err b)])∧Below w.heap.size w Y)∨
  (l.err b=0∧∃gW gM A7 c7,e= .returned (.tuple #[.pointer (some ⟨gW,0,none⟩),.int .i64 0])∧Job w Y x l gW gM A7 c7∧l.Days Y gM):=by
 obtain⟨hb,p,he,h1,h2⟩:=h
 by_cases hz:l.err b=0
 ·refine .inr ⟨hz,?_⟩
  obtain⟨gW,gM,A7,c7,rfl,hW,g1,g2,hM⟩:=h2 hz
  refine⟨gW,gM,A7,c7,by rw [he,hz],⟨hb,hr,hW,g1,g2,?_,?_⟩,memo_new _ hM⟩
  ·intro e;have:=hW.bW;rw [e,hM]at this;cases this
  ·intro a e hh
   have hn:0 < l.truths.length:=List.length_pos_iff.2 (err_zero hz).2.2
   obtain⟨a',e',hj⟩:=hW.tr.2.2 hn
   obtain rfl:a'=a:=by rw [e]at e';exact(Option.some.inj e').symm
   obtain⟨c,hl,hK,hi⟩:=hj 0 _ (List.getElem?_eq_getElem hn)
   have hc:c≠ []:=by intro hc;rw [hc]at hl;cases hl
   obtain⟨u,t,rfl⟩:∃u t,c=u::t:=by cases c with|nil=>exact absurd rfl hc|cons u t=>exact⟨u,t,rfl⟩
   have h0:=hi 0 u rfl
   unfold World.cell? at h0
   rw [add_block,hh,hM]at h0
   cases h0
 ·exact .inl ⟨hz,by rw [he,h1 hz],hb⟩
def SL.lefts (l:SL) (place:List Int) (cake:Int):List S56:=(List.range (l.a0-(rd_T126 l.l3 cake).f0+1).toNat).map fun (i:Nat)=>⟨(l.water cake (rd place cake) i).1,(l.water cake (rd place cake) i).2⟩
theorem place_spot {l:SL} {place:List Int} {cake:Int} (hp:l.isPlace place) (hi:l.is cake=true):Spot l cake (rd place cake)∧(0≤cake∧cake < place.length):=by
 unfold SL.is at hi
 have h:=of_decide_eq_true hi
 obtain⟨h1,h2,_⟩:=hp
 have h3:=h2 cake.toNat (by omega)
 have e:((cake.toNat:Nat):Int)=cake:=by omega
 rw [e]at h3
 exact⟨⟨h.1,h.2,h3.1,h3.2⟩,h.1,by omega⟩
theorem rowB {w:World} {B:Option Addr} {place:List Int} (h:Kd.C (Kd.int .i64) w B place.length place) (i:Int) (h0:0≤i) (h1:i < place.length):∃ad,B=some ad∧w.cell? (ad.add i.toNat)=some (.int .i64 (rd place i)):=Kd.at_int h i h0 h1
set_option maxRecDepth 100000 in
set_option maxHeartbeats 6400000 in
theorem Left.calls (x:SA) (l:SL) (B:Option Addr) (cB:Nat) (place:List Int) (cake:Int) (w:World) (hr:Rd w x l) (hB:Kd.C (Kd.int .i64) w B place.length place) (hcB:place.length≤cB):
  Calls Try.prog 21 #[.agg (x.cells l),.slice B place.length cB,.int .i64 cake] w fun e w'=>∃v,e= .returned (.tuple #[v,.int .i64 (l.err (decide (l.isPlace place)&&l.is cake))])∧
   Kd.R k56 56 w' w.heap.size (fun _=>True) v (if l.err (decide (l.isPlace place)&&l.is cake)=0 then l.lefts place cake else [])∧Below w.heap.size w w':=by
 obtain⟨A1,c1,A2,c2,A3,c3,A4,c4,A5,c5⟩:=x
 have HB:=Aside0.mk (Below.refl w.heap.size w)
 have HR:=Aside0.mk hr
 have HRB:=Aside0.mk hB
 obtain⟨b,hbv⟩:∃b,b=(decide (l.isPlace place)&&l.is cake):=⟨_,rfl⟩
 rw [←hbv]
 obtain⟨er,her⟩:∃er,er=l.err b:=⟨_,rfl⟩
 rw [←her]
 obtain⟨out,hout⟩:∃out,out=if er=0 then l.lefts place cake else []:=⟨_,rfl⟩
 rw [←hout]
 have HBV:=Aside0.mk her
 have HBB:=Aside0.mk hbv
 have HOUT:=Aside0.mk hout
 clear hr hB her hbv hout
 go_enter Try.func21,Try.ntmps21
 by_cases hz:er=0
 ·have hzb:(er !=0)=false:=by rw [hz];rfl
  have HZ:=Aside0.mk hz
  obtain⟨hf0,hb0,_⟩:=err_zero (HBV.out.symm.trans hz)
  have hpi:=HBB.out.symm.trans hb0
  rw [Bool.and_eq_true,decide_eq_true_eq]at hpi
  obtain⟨hsp,pc0,pc1⟩:=place_spot hpi.1 hpi.2
  have HSP:=Aside0.mk hsp
  have HF:=Aside0.mk hf0
  have hv:=valid_of hf0
  obtain⟨co0,co1,_⟩:=hv.cakes cake hsp.k0 hsp.k1
  have la5:=hv.last5
  have hc3:=hv.cake5
  have pl5:place.length≤5:=by rw [hpi.1.1];exact hv.cake5
  have k0:=hsp.k0
  have k1:=hsp.k1
  clear hz hf0 hb0 hpi hsp hv
  go_wp2_with (first|((with_reducible refine gate_dst (N:=3) rfl ?_);refine box_event ?hg (N:=3) ?hd (cs:=#[.int .i64 l.a0,.slice A1 l.l1.length c1,.slice A2 l.l2.length c2,.slice A3 l.l3.length c3,.slice A4 l.l4.length c4,.slice A5 l.l5.length c5]) (t:=39) ?hr ?_;(case hd=>rfl);(case hg=>rfl);(case hr=>first|(go_simp;done)|(go_simp;rfl));intro g3 hg_ w3 hbx_ hb_;have BK3:=Aside0.mk hbx_;have g3ge:w.heap.size≤g3:=(by have:=below_size HB.out;omega);have g3GE:=Aside0.mk g3ge;clear g3ge;have HBn:=Aside0.mk (below_step HB.out hb_);clear HB hg_ hb_ hbx_;have HB:=HBn;clear HBn)|((with_reducible refine gate_dst (N:=4) rfl ?_);refine box_event ?hg (N:=4) ?hd (cs:=#[.slice B place.length cB]) (t:=25) ?hr ?_;(case hd=>rfl);(case hg=>rfl);(case hr=>first|(go_simp;done)|(go_simp;rfl));intro g4 hg_ w4 hbx_ hb_;have BK4:=Aside0.mk hbx_;have g4ge:w.heap.size≤g4:=(by have:=below_size HB.out;omega);have g4GE:=Aside0.mk g4ge;clear g4ge;have HBn:=Aside0.mk (below_step HB.out hb_);have z_:=Aside0.mk (blk_below BK3.out hb_);clear BK3;have BK3:=z_;clear z_;clear HB hg_ hb_ hbx_;have HB:=HBn;clear HBn)|((with_reducible refine gate_dst (N:=5) rfl ?_);refine box_event ?hg (N:=5) ?hd (cs:=#[.int .i64 cake]) (t:=3) ?hr ?_;(case hd=>rfl);(case hg=>rfl);(case hr=>first|(go_simp;done)|(go_simp;rfl));intro g5 hg_ w5 hbx_ hb_;have BK5:=Aside0.mk hbx_;have g5ge:w.heap.size≤g5:=(by have:=below_size HB.out;omega);have g5GE:=Aside0.mk g5ge;clear g5ge;have HBn:=Aside0.mk (below_step HB.out hb_);have z_:=Aside0.mk (blk_below BK3.out hb_);clear BK3;have BK3:=z_;clear z_;have z_:=Aside0.mk (blk_below BK4.out hb_);clear BK4;have BK4:=z_;clear z_;clear HB hg_ hb_ hbx_;have HB:=HBn;clear HBn;have f0:w5.cell? ⟨g3,0,none⟩=some (.int .i64 l.a0):=(blk_cell BK3.out 0).trans rfl;have f1:w5.cell? ⟨g3,1,none⟩=some (.slice A1 l.l1.length c1):=(blk_cell BK3.out 1).trans rfl;have f2:w5.cell? ⟨g3,2,none⟩=some (.slice A2 l.l2.length c2):=(blk_cell BK3.out 2).trans rfl;have f3:w5.cell? ⟨g3,3,none⟩=some (.slice A3 l.l3.length c3):=(blk_cell BK3.out 3).trans rfl;have f4:w5.cell? ⟨g3,4,none⟩=some (.slice A4 l.l4.length c4):=(blk_cell BK3.out 4).trans rfl;have f5:w5.cell? ⟨g3,5,none⟩=some (.slice A5 l.l5.length c5):=(blk_cell BK3.out 5).trans rfl)|(go_at_call 72;go_must (refine(L_asked.calls ⟨A1,c1,A2,c2,A3,c3,A4,c4,A5,c5⟩ l 73 #[.pointer (some ⟨g3,0,none⟩),.pointer (some ⟨g4,0,none⟩),.pointer (some ⟨g5,0,none⟩)] _ _ (HR.out.below HB.out) (fun hf W hb=>left1_call ⟨A1,c1,A2,c2,A3,c3,A4,c4,A5,c5⟩ l B cB place g3 g4 g5 cake W ⟨(HR.out.below HB.out).below hb,(valid_of hf).shelf3,(valid_of hf).cake5,Kd.C_below (Kd.C_below HRB.out HB.out) hb,blk_below BK3.out hb,blk_below BK4.out hb⟩ (blk_below BK5.out hb)) (fun w=>enters_ Try.func73 (by kernel_rfl) rfl _ w)).mono ?_;clear f0 f1 f2 f3 f4 f5;rintro e wA hA;have hbA:=hA.1;replace hA:=job_of (HR.out.below HB.out) hA;rw [←HBB.out,←HBV.out]at hA;replace BK3:=Aside0.mk (blk_below BK3.out hbA);replace BK4:=Aside0.mk (blk_below BK4.out hbA);replace BK5:=Aside0.mk (blk_below BK5.out hbA);rcases hA with⟨hz0,rfl,_⟩|⟨hz0,gW,gM,A7,c7,rfl,hJ,hM⟩;exact absurd HZ.out hz0;have J:=Aside0.mk hJ;replace HB:=Aside0.mk (below_step HB.out hbA);clear hbA hz0 hJ hM)))
  obtain⟨ad3,e3,fC0,_,_,_⟩:=at_T126 J.out.work.rd.r3 cake k0 k1
  obtain⟨adp,ep,fp⟩:=rowB HRB.out cake pc0 pc1
  simp only at e3
  subst e3
  subst ep
  have f30:wA.cell? ⟨g3,0,none⟩=some (.int .i64 l.a0):=(blk_cell BK3.out 0).trans rfl
  have f33:wA.cell? ⟨g3,3,none⟩=some (.slice (some ad3) l.l3.length c3):=(blk_cell BK3.out 3).trans rfl
  have f50:wA.cell? ⟨g5,0,none⟩=some (.int .i64 cake):=(blk_cell BK5.out 0).trans rfl
  obtain⟨co,hco⟩:∃co,co=(rd_T126 l.l3 cake).f0:=⟨_,rfl⟩
  rw [←hco]at co0 co1 fC0
  have HCO:=Aside0.mk hco
  clear hco
  have hw1:IntKind.i64.wrap (l.a0-co)=l.a0-co:=IntWalk.i64_in _ (by omega)
  have hw2:IntKind.i64.wrap (l.a0-co+1)=l.a0-co+1:=IntWalk.i64_in _ (by omega)
  go_quiet (fail)
  have hb_:=pw_below_drewN (Below.refl wA.heap.size wA) nq
  replace J:=Aside0.mk (J.out.below hb_)
  replace HB:=Aside0.mk (below_step HB.out hb_)
  replace BK3:=Aside0.mk (blk_below BK3.out hb_)
  replace BK4:=Aside0.mk (blk_below BK4.out hb_)
  replace BK5:=Aside0.mk (blk_below BK5.out hb_)
  clear hb_ f30 f33 f50 fC0
  generalize wA.drewN nq=wB at J HB BK3 BK4 BK5 ⊢
  go_wp2_with fail
  have J0:=J
  have BK30:=BK3
  have BK40:=BK4
  have BK50:=BK5
  have HB0:=HB
  go_loopw [10,31] (fun v10 v31 wr=>∃(i:Nat) (acc:List S56),v31= .int .i64 (i:Int)∧(i:Int)≤l.a0-co+1∧Aside0 (acc=(l.lefts place cake).take i)∧Aside0 (Kd.R k56 56 wr wB.heap.size (fun _=>True) v10 acc)∧Aside0 (Below wB.heap.size wB wr)) (fun _ v31 _=>(l.a0-co+1-intOf v31).toNat)
  case atStart=>exact⟨0,[],rfl,by omega,⟨by simp⟩,⟨Kd.R_nil _ _ _ _ _⟩,⟨Below.refl _ _⟩⟩
  case round=>
   clear BK3 BK4 BK5 J HB
   obtain⟨i,acc,rfl,hi,HA,HO,HBB2⟩:=hrel
   have J:=Aside0.mk (J0.out.below HBB2.out)
   have BK3:=Aside0.mk (blk_below BK30.out HBB2.out)
   have BK4:=Aside0.mk (blk_below BK40.out HBB2.out)
   have BK5:=Aside0.mk (blk_below BK50.out HBB2.out)
   have HB:=Aside0.mk (below_step HB0.out HBB2.out)
   by_cases hlt:(i:Int) < l.a0-co+1
   ·have ALEN:=Aside0.mk (show acc.length≤100 by rw [HA.out,List.length_take];omega)
    have hix:(l.lefts place cake)[i]? =some ⟨(l.water cake (rd place cake) (i:Int)).1,(l.water cake (rd place cake) (i:Int)).2⟩:=by
     unfold SL.lefts
     rw [List.getElem?_map,List.getElem?_range (by rw [←HCO.out];omega)];rfl
    have HIX:=Aside0.mk hix
    clear hix
    have hwi:IntKind.i64.wrap ((i:Int)+1)=(i:Int)+1:=IntWalk.i64_in _ (by omega)
    go_upto_region 8 with(fail)
    replace BK3:=Aside0.mk (blk_drew BK3.out)
    replace BK4:=Aside0.mk (blk_drew BK4.out)
    replace BK5:=Aside0.mk (blk_drew BK5.out)
    replace J:=Aside0.mk (J.out.below (below_drew1 (Below.refl _ _)))
    replace HO:=Aside0.mk (Kd.R_drew HO.out)
    replace HB:=Aside0.mk (below_drew1 HB.out)
    replace HBB2:=Aside0.mk (below_drew1 HBB2.out)
    refine start_ (n:=14) (S:=fun w'=>w'.cell? ⟨g5,0,none⟩=some (.int .i64 cake)∧w'.cell? ⟨g4,0,none⟩=some (.slice (some adp) place.length cB)∧w'.cell? (adp.add cake.toNat)=some (.int .i64 (rd place cake))) (ds:= []) #[false,false,false,false,false,false,false,false,false,false,false,false,false,false] (by kernel_rfl) rfl rfl ⟨(blk_cell BK5.out 0).trans rfl,(blk_cell BK4.out 0).trans rfl,((HB.out.cell (World.block_lt_of_cell? w _ fp)).trans fp)⟩ (fun hHeld=> ?_)
    generalize wr.drew=wd at BK3 BK4 BK5 J HO HB HBB2 hHeld ⊢
    refine pure_ (i:=0) (N:=some 34) (v:= ?_) (a':= ?_) #[true,false,false,false,false,false,false,false,false,false,false,false,false,false] rfl rfl (by kernel_rfl) (fun _ _ _ h=>h) (Or.inl ⟨by rfl,?_⟩) ?_ ?_
    rotate_left
    ·intro w'
     go_simp
     with_reducible rfl
    rotate_left
    ·simp only [Act.put,List.setIfInBounds_toArray,List.set_cons_zero,List.set_cons_succ];rfl
    refine pure_ (i:=1) (N:=some 35) (v:= ?_) (a':= ?_) #[true,true,false,false,false,false,false,false,false,false,false,false,false,false] rfl rfl (by kernel_rfl) (fun _ _ _ h=>h) (Or.inl ⟨by rfl,?_⟩) ?_ ?_
    rotate_left
    ·intro w'
     go_simp
     with_reducible rfl
    rotate_left
    ·simp only [Act.put,List.setIfInBounds_toArray,List.set_cons_zero,List.set_cons_succ];rfl
    refine pure_ (i:=2) (N:=some 36) (v:= ?_) (a':= ?_) #[true,true,true,false,false,false,false,false,false,false,false,false,false,false] rfl rfl (by kernel_rfl) (fun _ _ _ h=>h) (Or.inl ⟨by rfl,?_⟩) ?_ ?_
    rotate_left
    ·intro w'
     go_simp
     with_reducible rfl
    rotate_left
    ·simp only [Act.put,List.setIfInBounds_toArray,List.set_cons_zero,List.set_cons_succ];rfl
    refine take_ (i:=3) (N:=some 37) (v:= ?_) (a':= ?_) #[true,true,true,true,false,false,false,false,false,false,false,false,false,false] rfl rfl (by kernel_rfl) (fun _ _ _ h=>h) (Or.inl ⟨by rfl,?_⟩) hHeld ?_ ?_
    rotate_left
    ·rintro w' ⟨s0,s1,s2⟩
     go_simp
     with_reducible rfl
    rotate_left
    ·simp only [Act.put,List.setIfInBounds_toArray,List.set_cons_zero,List.set_cons_succ];rfl
    refine take_ (i:=4) (N:=some 38) (v:= ?_) (a':= ?_) #[true,true,true,true,true,false,false,false,false,false,false,false,false,false] rfl rfl (by kernel_rfl) (fun _ _ _ h=>h) (Or.inl ⟨by rfl,?_⟩) hHeld ?_ ?_
    rotate_left
    ·rintro w' ⟨s0,s1,s2⟩
     go_simp
     with_reducible rfl
    rotate_left
    ·simp only [Act.put,List.setIfInBounds_toArray,List.set_cons_zero,List.set_cons_succ];rfl
    refine take_ (i:=5) (N:=some 39) (v:= ?_) (a':= ?_) #[true,true,true,true,true,true,false,false,false,false,false,false,false,false] rfl rfl (by kernel_rfl) (fun _ _ _ h=>h) (Or.inl ⟨by rfl,?_⟩) hHeld ?_ ?_
    rotate_left
    ·rintro w' ⟨s0,s1,s2⟩
     go_simp
     with_reducible rfl
    rotate_left
    ·simp only [Act.put,List.setIfInBounds_toArray,List.set_cons_zero,List.set_cons_succ];rfl
    refine take_ (i:=6) (N:=some 40) (v:= ?_) (a':= ?_) #[true,true,true,true,true,true,true,false,false,false,false,false,false,false] rfl rfl (by kernel_rfl) (fun _ _ _ h=>h) (Or.inl ⟨by rfl,?_⟩) hHeld ?_ ?_
    rotate_left
    ·rintro w' ⟨s0,s1,s2⟩
     go_simp
     with_reducible rfl
    rotate_left
    ·simp only [Act.put,List.setIfInBounds_toArray,List.set_cons_zero,List.set_cons_succ];rfl
    refine take_ (i:=7) (N:=some 41) (v:= ?_) (a':= ?_) #[true,true,true,true,true,true,true,true,false,false,false,false,false,false] rfl rfl (by kernel_rfl) (fun _ _ _ h=>h) (Or.inl ⟨by rfl,?_⟩) hHeld ?_ ?_
    rotate_left
    ·rintro w' ⟨s0,s1,s2⟩
     go_simp
     with_reducible rfl
    rotate_left
    ·simp only [Act.put,List.setIfInBounds_toArray,List.set_cons_zero,List.set_cons_succ];rfl
    refine pure_ (i:=8) (N:=some 42) (v:= ?_) (a':= ?_) #[true,true,true,true,true,true,true,true,true,false,false,false,false,false] rfl rfl (by kernel_rfl) (fun _ _ _ h=>h) (Or.inl ⟨by rfl,?_⟩) ?_ ?_
    rotate_left
    ·intro w'
     go_simp
     with_reducible rfl
    rotate_left
    ·simp only [Act.put,List.setIfInBounds_toArray,List.set_cons_zero,List.set_cons_succ];rfl
    refine pure_ (i:=9) (N:=some 43) (v:= ?_) (a':= ?_) #[true,true,true,true,true,true,true,true,true,true,false,false,false,false] rfl rfl (by kernel_rfl) (fun _ _ _ h=>h) (Or.inl ⟨by rfl,?_⟩) ?_ ?_
    rotate_left
    ·intro w'
     go_simp
     with_reducible rfl
    rotate_left
    ·simp only [Act.put,List.setIfInBounds_toArray,List.set_cons_zero,List.set_cons_succ];rfl
    refine one_ (i:=10) (N:=some 44) #[true,true,true,true,true,true,true,true,true,true,true,false,false,false] rfl rfl (by kernel_rfl) (by decide) (fun K hK=> ?_)
    refine goes_ Try.func77 (by kernel_rfl) rfl #[.agg #[.func (.func 76) #[] #[]],.pointer (some ⟨gW,0,none⟩),.agg #[.int .i64 cake,.int .i64 (rd place cake)],.int .i64 (i:Int)] (by rfl) rfl rfl (by(try simp only [List.map_toArray,List.map_cons,List.map_nil]);rfl) ?_
    refine(bounds.calls 76 _ asks_water ⟨A1,c1,A2,c2,some ad3,c3,A4,c4,A5,c5⟩ l gW gM A7 c7 cake (rd place cake) (i:Int) _ J.out.work HF.out HSP.out.k0 HSP.out.k1 HSP.out.s0 HSP.out.s1 (by omega) (by rw [←HCO.out];omega)).mono ?_
    rintro e wl ⟨rfl,hb⟩
    refine⟨_,rfl,?_⟩
    replace BK3:=Aside0.mk (blk_below BK3.out hb)
    replace BK4:=Aside0.mk (blk_below BK4.out hb)
    replace BK5:=Aside0.mk (blk_below BK5.out hb)
    replace J:=Aside0.mk (J.out.below hb)
    replace HO:=Aside0.mk (Kd.R_below HO.out hb)
    replace HB:=Aside0.mk (below_step HB.out hb)
    replace HBB2:=Aside0.mk (below_step HBB2.out hb)
    clear hb
    refine hK.out _ _ ⟨(blk_cell BK5.out 0).trans rfl,(blk_cell BK4.out 0).trans rfl,((HB.out.cell (World.block_lt_of_cell? w _ fp)).trans fp)⟩ (fun hHeld=> ?_)
    clear hK K
    refine norm_ (a':= ?_) ?_ ?_
    rotate_left
    ·show Act.put _ (some 44) _=_;simp only [Act.put,List.setIfInBounds_toArray,List.set_cons_zero,List.set_cons_succ];rfl
    refine one_ (i:=11) (N:=some 45) #[true,true,true,true,true,true,true,true,true,true,true,true,false,false] rfl rfl (by kernel_rfl) (by decide) (fun K hK=> ?_)
    refine value_ (w1:= ?_) (v:= ?_) (by rfl) rfl ?_ ?_
    rotate_left 2
    ·go_simp
     constructor
     ·rfl
     ·rfl
    refine hK.out _ _ ⟨(blk_cell (blk_alloc BK5.out _) 0).trans rfl,(blk_cell (blk_alloc BK4.out _) 0).trans rfl,((World.cell?_alloc_lt _ _ _ (World.block_lt_of_cell? _ _ ((HB.out.cell (World.block_lt_of_cell? w _ fp)).trans fp))).trans ((HB.out.cell (World.block_lt_of_cell? w _ fp)).trans fp))⟩ (fun hHeld=> ?_)
    clear hK K
    refine norm_ (a':= ?_) ?_ ?_
    rotate_left
    ·show Act.put _ (some 45) _=_;simp only [Act.put,List.setIfInBounds_toArray,List.set_cons_zero,List.set_cons_succ];rfl
    refine one_ (i:=12) (N:=some 46) #[true,true,true,true,true,true,true,true,true,true,true,true,true,false] rfl rfl (by kernel_rfl) (by decide) (fun K hK=> ?_)
    refine Kd.R_append_step k56 (w0:=wB) wB.heap.size (by rfl) (.tmp 34) (.tmp 45) 31 56 (.agg #[(.int .i64 0),(.int .i64 0)]) 16 rfl Try.underlying31 info56 rfl (by decide) (by omega) u10 acc ⟨(l.water cake (rd place cake) (i:Int)).1,(l.water cake (rd place cake) (i:Int)).2⟩ [.int .i64 (l.water cake (rd place cake) (i:Int)).1,.int .i64 (l.water cake (rd place cake) (i:Int)).2] (fun _=>True) (fun _=>False) rfl rfl ?aP (fun _ hk=>hk.elim) (fun _ _=>trivial) HO.out HBB2.out HBB2.out.size ?aL ?_
    (case aP=>exact k56_mkM _ _ _ (⟨(l.water cake (rd place cake) (i:Int)).1,(l.water cake (rd place cake) (i:Int)).2⟩:S56))
    (case aL=>have:=ALEN.out;omega)
    intro v9 w9 ho hb hg hat
    have BK3:=Aside0.mk (blk_below BK30.out hb)
    have BK4:=Aside0.mk (blk_below BK40.out hb)
    have BK5:=Aside0.mk (blk_below BK50.out hb)
    have HB:=Aside0.mk (below_step HB0.out hb)
    refine hK.out _ _ ⟨(blk_cell BK5.out 0).trans rfl,(blk_cell BK4.out 0).trans rfl,((HB.out.cell (World.block_lt_of_cell? w _ fp)).trans fp)⟩ (fun hHeld=> ?_)
    clear hK K
    refine norm_ (a':= ?_) ?_ ?_
    rotate_left
    ·show Act.put _ (some 46) _=_;simp only [Act.put,List.setIfInBounds_toArray,List.set_cons_zero,List.set_cons_succ];rfl
    refine pure_ (i:=13) (N:=some 10) (v:= ?_) (a':= ?_) #[true,true,true,true,true,true,true,true,true,true,true,true,true,true] rfl rfl (by kernel_rfl) (fun _ _ _ h=>h) (Or.inl ⟨by rfl,?_⟩) ?_ ?_
    rotate_left
    ·intro w'
     go_simp
     with_reducible rfl
    rotate_left
    ·simp only [Act.put,List.setIfInBounds_toArray,List.set_cons_zero,List.set_cons_succ];rfl
    refine done_ (by kernel_rfl) ?_
    go_wp2
    refine⟨⟨i+1,acc++ [⟨(l.water cake (rd place cake) (i:Int)).1,(l.water cake (rd place cake) (i:Int)).2⟩],by simp,by omega,⟨by rw [List.take_add_one,HIX.out,HA.out];rfl⟩,⟨ho⟩,⟨hb⟩⟩,by simp [intOf];omega⟩
   ·have hie:(i:Int)=l.a0-co+1:=by omega
    have hfull:acc=l.lefts place cake:=by
     rw [HA.out,List.take_of_length_le]
     unfold SL.lefts
     rw [List.length_map,List.length_range,←HCO.out];omega
    have HFU:=Aside0.mk hfull
    clear hfull
    go_wp2
    go_ret2
    exact⟨_,by rw [HZ.out];rfl,by rw [HOUT.out,if_pos HZ.out,←HFU.out];exact Kd.R_lower HO.out HB0.out.size,HB.out⟩
 ·have hzb:(er !=0)=true:=by simpa using hz
  have HZ:=Aside0.mk hz
  clear hz
  go_wp2_with (first|((with_reducible refine gate_dst (N:=3) rfl ?_);refine box_event ?hg (N:=3) ?hd (cs:=#[.int .i64 l.a0,.slice A1 l.l1.length c1,.slice A2 l.l2.length c2,.slice A3 l.l3.length c3,.slice A4 l.l4.length c4,.slice A5 l.l5.length c5]) (t:=39) ?hr ?_;(case hd=>rfl);(case hg=>rfl);(case hr=>first|(go_simp;done)|(go_simp;rfl));intro g3 hg_ w3 hbx_ hb_;have BK3:=Aside0.mk hbx_;have g3ge:w.heap.size≤g3:=(by have:=below_size HB.out;omega);have g3GE:=Aside0.mk g3ge;clear g3ge;have HBn:=Aside0.mk (below_step HB.out hb_);clear HB hg_ hb_ hbx_;have HB:=HBn;clear HBn)|((with_reducible refine gate_dst (N:=4) rfl ?_);refine box_event ?hg (N:=4) ?hd (cs:=#[.slice B place.length cB]) (t:=25) ?hr ?_;(case hd=>rfl);(case hg=>rfl);(case hr=>first|(go_simp;done)|(go_simp;rfl));intro g4 hg_ w4 hbx_ hb_;have BK4:=Aside0.mk hbx_;have g4ge:w.heap.size≤g4:=(by have:=below_size HB.out;omega);have g4GE:=Aside0.mk g4ge;clear g4ge;have HBn:=Aside0.mk (below_step HB.out hb_);have z_:=Aside0.mk (blk_below BK3.out hb_);clear BK3;have BK3:=z_;clear z_;clear HB hg_ hb_ hbx_;have HB:=HBn;clear HBn)|((with_reducible refine gate_dst (N:=5) rfl ?_);refine box_event ?hg (N:=5) ?hd (cs:=#[.int .i64 cake]) (t:=3) ?hr ?_;(case hd=>rfl);(case hg=>rfl);(case hr=>first|(go_simp;done)|(go_simp;rfl));intro g5 hg_ w5 hbx_ hb_;have BK5:=Aside0.mk hbx_;have g5ge:w.heap.size≤g5:=(by have:=below_size HB.out;omega);have g5GE:=Aside0.mk g5ge;clear g5ge;have HBn:=Aside0.mk (below_step HB.out hb_);have z_:=Aside0.mk (blk_below BK3.out hb_);clear BK3;have BK3:=z_;clear z_;have z_:=Aside0.mk (blk_below BK4.out hb_);clear BK4;have BK4:=z_;clear z_;clear HB hg_ hb_ hbx_;have HB:=HBn;clear HBn;have f0:w5.cell? ⟨g3,0,none⟩=some (.int .i64 l.a0):=(blk_cell BK3.out 0).trans rfl;have f1:w5.cell? ⟨g3,1,none⟩=some (.slice A1 l.l1.length c1):=(blk_cell BK3.out 1).trans rfl;have f2:w5.cell? ⟨g3,2,none⟩=some (.slice A2 l.l2.length c2):=(blk_cell BK3.out 2).trans rfl;have f3:w5.cell? ⟨g3,3,none⟩=some (.slice A3 l.l3.length c3):=(blk_cell BK3.out 3).trans rfl;have f4:w5.cell? ⟨g3,4,none⟩=some (.slice A4 l.l4.length c4):=(blk_cell BK3.out 4).trans rfl;have f5:w5.cell? ⟨g3,5,none⟩=some (.slice A5 l.l5.length c5):=(blk_cell BK3.out 5).trans rfl)|(go_at_call 72;go_must (refine(L_asked.calls ⟨A1,c1,A2,c2,A3,c3,A4,c4,A5,c5⟩ l 73 #[.pointer (some ⟨g3,0,none⟩),.pointer (some ⟨g4,0,none⟩),.pointer (some ⟨g5,0,none⟩)] _ _ (HR.out.below HB.out) (fun hf W hb=>left1_call ⟨A1,c1,A2,c2,A3,c3,A4,c4,A5,c5⟩ l B cB place g3 g4 g5 cake W ⟨(HR.out.below HB.out).below hb,(valid_of hf).shelf3,(valid_of hf).cake5,Kd.C_below (Kd.C_below HRB.out HB.out) hb,blk_below BK3.out hb,blk_below BK4.out hb⟩ (blk_below BK5.out hb)) (fun w=>enters_ Try.func73 (by kernel_rfl) rfl _ w)).mono ?_;clear f0 f1 f2 f3 f4 f5;rintro e wA hA;have hbA:=hA.1;replace hA:=job_of (HR.out.below HB.out) hA;rw [←HBB.out,←HBV.out]at hA;replace BK3:=Aside0.mk (blk_below BK3.out hbA);replace BK4:=Aside0.mk (blk_below BK4.out hbA);replace BK5:=Aside0.mk (blk_below BK5.out hbA);rcases hA with⟨hz0,rfl,_⟩|⟨hz0,gW,gM,A7,c7,rfl,hJ,hM⟩;rotate_left;exact absurd hz0 HZ.out;replace HB:=Aside0.mk (below_step HB.out hbA);clear hbA hz0)))
  go_ret2
  exact⟨_,rfl,by rw [HOUT.out,if_neg HZ.out];exact Kd.R_nil _ _ _ _ _,HB.out⟩
end Go.Proofs.Ytjifalohjlihaaa.Q
end
section
namespace Go.Proofs.Ytjifalohjlihaaa.Q
set_option linter.unusedVariables false
open Go.BigFrame Go.RowKit Go.Shelf Go.Proofs.YtjifalohjlihaaaW.PrintWords Go.Proofs.YtjifalohjlihaaaW.PrintLast Go.Proofs.YtjifalohjlihaaaW.PrintMore
theorem quiet_gb {P:Program} {Q:Exit→Act→World→Prop} {id:Nat} {a:Act} {w:World} {l:List Oper} (hm:P.follows .mixedOrders=true) (hB:Region.lexB .any l.toArray=true)
  (h:wpQuiet P l.toArray (fun w'=>∃p:GB w,w'=p.W) (fun a'=>∀w',(∃p:GB w,w'=p.W)→Q .normal a' w') l a):(Code.region id l.toArray true).wp P Q a w:=
 wp_region_quiet (C:=fun w'=>∃p:GB w,w'=p.W) hm hB ⟨⟨w.drew,below_drew1 (Below.refl _ _)⟩,rfl⟩ (by simpa using h)
theorem day_and {l:SL} {cake day:Int} (h:l.day cake day=true):l.is cake=true∧(rd_T126 l.l3 cake).f0≤day∧day≤l.a0:=by
 unfold SL.day at h
 have h:=of_decide_eq_true h
 exact⟨decide_eq_true h.1,h.2⟩
set_option maxRecDepth 100000 in
set_option maxHeartbeats 6400000 in
theorem Dry.calls (x:SA) (l:SL) (B:Option Addr) (cB:Nat) (place:List Int) (cake day:Int) (w:World) (hr:Rd w x l) (hB:Kd.C (Kd.int .i64) w B place.length place) (hcB:place.length≤cB):
  Calls Try.prog 24 #[.agg (x.cells l),.slice B place.length cB,.int .i64 cake,.int .i64 day] w fun e w'=>e= .returned (.tuple #[.int .i64 (if l.err (decide (l.isPlace place)&&l.day cake day)=0 then l.dry cake (rd place cake) (day-(rd_T126 l.l3 cake).f0)else 0),.int .i64 (l.err (decide (l.isPlace place)&&l.day cake day))])∧Below w.heap.size w w':=by
 obtain⟨A1,c1,A2,c2,A3,c3,A4,c4,A5,c5⟩:=x
 have HB:=Aside0.mk (Below.refl w.heap.size w)
 have HR:=Aside0.mk hr
 have HRB:=Aside0.mk hB
 obtain⟨b,hbv⟩:∃b,b=(decide (l.isPlace place)&&l.day cake day):=⟨_,rfl⟩
 rw [←hbv]
 obtain⟨er,her⟩:∃er,er=l.err b:=⟨_,rfl⟩
 rw [←her]
 obtain⟨out,hout⟩:∃out,out=if er=0 then l.dry cake (rd place cake) (day-(rd_T126 l.l3 cake).f0)else 0:=⟨_,rfl⟩
 rw [←hout]
 have HBV:=Aside0.mk her
 have HBB:=Aside0.mk hbv
 have HOUT:=Aside0.mk hout
 clear hr hB her hbv hout
 go_enter Try.func24,Try.ntmps24
 by_cases hz:er=0
 ·have hzb:(er !=0)=false:=by rw [hz];rfl
  have HZ:=Aside0.mk hz
  obtain⟨hf0,hb0,_⟩:=err_zero (HBV.out.symm.trans hz)
  have hpi:=HBB.out.symm.trans hb0
  rw [Bool.and_eq_true,decide_eq_true_eq]at hpi
  obtain⟨hday,hd1,hd2⟩:=day_and hpi.2
  obtain⟨hsp,pc0,pc1⟩:=place_spot hpi.1 hday
  have HSP:=Aside0.mk hsp
  have HF:=Aside0.mk hf0
  have hv:=valid_of hf0
  obtain⟨co0,co1,_⟩:=hv.cakes cake hsp.k0 hsp.k1
  have la5:=hv.last5
  have hc3:=hv.cake5
  have pl5:place.length≤5:=by rw [hpi.1.1];exact hv.cake5
  have k0:=hsp.k0
  have k1:=hsp.k1
  clear hz hf0 hb0 hpi hsp hv hday
  go_wp2_with (first|((with_reducible refine gate_dst (N:=4) rfl ?_);refine box_event ?hg (N:=4) ?hd (cs:=#[.int .i64 l.a0,.slice A1 l.l1.length c1,.slice A2 l.l2.length c2,.slice A3 l.l3.length c3,.slice A4 l.l4.length c4,.slice A5 l.l5.length c5]) (t:=39) ?hr ?_;(case hd=>rfl);(case hg=>rfl);(case hr=>first|(go_simp;done)|(go_simp;rfl));intro g4 hg_ w4 hbx_ hb_;have BK4:=Aside0.mk hbx_;have g4ge:w.heap.size≤g4:=(by have:=below_size HB.out;omega);have g4GE:=Aside0.mk g4ge;clear g4ge;have HBn:=Aside0.mk (below_step HB.out hb_);clear HB hg_ hb_ hbx_;have HB:=HBn;clear HBn)|((with_reducible refine gate_dst (N:=5) rfl ?_);refine box_event ?hg (N:=5) ?hd (cs:=#[.slice B place.length cB]) (t:=25) ?hr ?_;(case hd=>rfl);(case hg=>rfl);(case hr=>first|(go_simp;done)|(go_simp;rfl));intro g5 hg_ w5 hbx_ hb_;have BK5:=Aside0.mk hbx_;have g5ge:w.heap.size≤g5:=(by have:=below_size HB.out;omega);have g5GE:=Aside0.mk g5ge;clear g5ge;have HBn:=Aside0.mk (below_step HB.out hb_);have z_:=Aside0.mk (blk_below BK4.out hb_);clear BK4;have BK4:=z_;clear z_;clear HB hg_ hb_ hbx_;have HB:=HBn;clear HBn)|((with_reducible refine gate_dst (N:=6) rfl ?_);refine box_event ?hg (N:=6) ?hd (cs:=#[.int .i64 cake]) (t:=3) ?hr ?_;(case hd=>rfl);(case hg=>rfl);(case hr=>first|(go_simp;done)|(go_simp;rfl));intro g6 hg_ w6 hbx_ hb_;have BK6:=Aside0.mk hbx_;have g6ge:w.heap.size≤g6:=(by have:=below_size HB.out;omega);have g6GE:=Aside0.mk g6ge;clear g6ge;have HBn:=Aside0.mk (below_step HB.out hb_);have z_:=Aside0.mk (blk_below BK4.out hb_);clear BK4;have BK4:=z_;clear z_;have z_:=Aside0.mk (blk_below BK5.out hb_);clear BK5;have BK5:=z_;clear z_;clear HB hg_ hb_ hbx_;have HB:=HBn;clear HBn)|((with_reducible refine gate_dst (N:=7) rfl ?_);refine box_event ?hg (N:=7) ?hd (cs:=#[.int .i64 day]) (t:=3) ?hr ?_;(case hd=>rfl);(case hg=>rfl);(case hr=>first|(go_simp;done)|(go_simp;rfl));intro g7 hg_ w7 hbx_ hb_;have BK7:=Aside0.mk hbx_;have g7ge:w.heap.size≤g7:=(by have:=below_size HB.out;omega);have g7GE:=Aside0.mk g7ge;clear g7ge;have HBn:=Aside0.mk (below_step HB.out hb_);have z_:=Aside0.mk (blk_below BK4.out hb_);clear BK4;have BK4:=z_;clear z_;have z_:=Aside0.mk (blk_below BK5.out hb_);clear BK5;have BK5:=z_;clear z_;have z_:=Aside0.mk (blk_below BK6.out hb_);clear BK6;have BK6:=z_;clear z_;clear HB hg_ hb_ hbx_;have HB:=HBn;clear HBn;have f0:w7.cell? ⟨g4,0,none⟩=some (.int .i64 l.a0):=(blk_cell BK4.out 0).trans rfl;have f1:w7.cell? ⟨g4,1,none⟩=some (.slice A1 l.l1.length c1):=(blk_cell BK4.out 1).trans rfl;have f2:w7.cell? ⟨g4,2,none⟩=some (.slice A2 l.l2.length c2):=(blk_cell BK4.out 2).trans rfl;have f3:w7.cell? ⟨g4,3,none⟩=some (.slice A3 l.l3.length c3):=(blk_cell BK4.out 3).trans rfl;have f4:w7.cell? ⟨g4,4,none⟩=some (.slice A4 l.l4.length c4):=(blk_cell BK4.out 4).trans rfl;have f5:w7.cell? ⟨g4,5,none⟩=some (.slice A5 l.l5.length c5):=(blk_cell BK4.out 5).trans rfl)|(go_at_call 72;go_must (refine(L_asked.calls ⟨A1,c1,A2,c2,A3,c3,A4,c4,A5,c5⟩ l 78 #[.pointer (some ⟨g4,0,none⟩),.pointer (some ⟨g5,0,none⟩),.pointer (some ⟨g6,0,none⟩),.pointer (some ⟨g7,0,none⟩)] _ _ (HR.out.below HB.out) (fun hf W hb=>dry1_call ⟨A1,c1,A2,c2,A3,c3,A4,c4,A5,c5⟩ l B cB place g4 g5 g6 g7 cake day W ⟨(HR.out.below HB.out).below hb,(valid_of hf).shelf3,(valid_of hf).cake5,Kd.C_below (Kd.C_below HRB.out HB.out) hb,blk_below BK4.out hb,blk_below BK5.out hb⟩ (blk_below BK6.out hb) (blk_below BK7.out hb)) (fun w=>enters_ Try.func78 (by kernel_rfl) rfl _ w)).mono ?_;clear f0 f1 f2 f3 f4 f5;rintro e wA hA;have hbA:=hA.1;replace hA:=job_of (HR.out.below HB.out) hA;rw [←HBB.out,←HBV.out]at hA;replace BK4:=Aside0.mk (blk_below BK4.out hbA);replace BK5:=Aside0.mk (blk_below BK5.out hbA);replace BK6:=Aside0.mk (blk_below BK6.out hbA);replace BK7:=Aside0.mk (blk_below BK7.out hbA);rcases hA with⟨hz0,rfl,_⟩|⟨hz0,gW,gM,A7,c7,rfl,hJ,hM⟩;exact absurd HZ.out hz0;have J:=Aside0.mk hJ;replace HB:=Aside0.mk (below_step HB.out hbA);clear hbA hz0 hJ hM)))
  obtain⟨ad3,e3,fC0,_,_,_⟩:=at_T126 J.out.work.rd.r3 cake k0 k1
  obtain⟨adp,ep,fp⟩:=rowB (Kd.C_below HRB.out HB.out) cake pc0 pc1
  simp only at e3
  subst e3
  subst ep
  obtain⟨co,hco⟩:∃co,co=(rd_T126 l.l3 cake).f0:=⟨_,rfl⟩
  rw [←hco]at co0 co1 fC0 hd1
  have HCO:=Aside0.mk hco
  clear hco
  have hw1:IntKind.i64.wrap (day-co)=day-co:=IntWalk.i64_in _ (by omega)
  have f43:wA.cell? ⟨g4,3,none⟩=some (.slice (some ad3) l.l3.length c3):=(blk_cell BK4.out 3).trans rfl
  have f50:wA.cell? ⟨g5,0,none⟩=some (.slice (some adp) place.length cB):=(blk_cell BK5.out 0).trans rfl
  have f60:wA.cell? ⟨g6,0,none⟩=some (.int .i64 cake):=(blk_cell BK6.out 0).trans rfl
  have f70:wA.cell? ⟨g7,0,none⟩=some (.int .i64 day):=(blk_cell BK7.out 0).trans rfl
  replace fC0:=gb_cell fC0
  replace fp:=gb_cell fp
  replace f43:=gb_cell f43
  replace f50:=gb_cell f50
  replace f60:=gb_cell f60
  replace f70:=gb_cell f70
  have HC:=Aside0.mk (show ∀p:GB wA,Calls Try.prog 80 #[.pointer (some ⟨gW,0,none⟩),.agg #[.int .i64 cake,.int .i64 (rd place cake)],.int .i64 (day-co)] p.W fun e w'=>e= .returned (.int .i64 (l.dry cake (rd place cake) (day-co)))∧∃q:GB wA,w'=q.W from fun p=>by
   refine(dry.calls _ l gW gM A7 c7 cake (rd place cake) (day-co) p.W (J.out.work.below p.bel) HF.out HSP.out (by omega) (by rw [←HCO.out];omega)).mono ?_
   rintro e w' ⟨rfl,hb⟩
   exact⟨rfl,⟨⟨w',below_step p.bel hb⟩,rfl⟩⟩)
  refine quiet_gb (by kernel_rfl) (by kernel_rfl) ?_
  repeat(go_big_quiet_step (exact HC.out _))
  refine wpQuiet_nil ?_
  rintro _ ⟨q,rfl⟩
  go_wp2
  go_ret2
  exact⟨by rw [HOUT.out,if_pos HZ.out,HZ.out,HCO.out];rfl,below_step HB.out q.bel⟩
 ·have hzb:(er !=0)=true:=by simpa using hz
  have HZ:=Aside0.mk hz
  clear hz
  go_wp2_with (first|((with_reducible refine gate_dst (N:=4) rfl ?_);refine box_event ?hg (N:=4) ?hd (cs:=#[.int .i64 l.a0,.slice A1 l.l1.length c1,.slice A2 l.l2.length c2,.slice A3 l.l3.length c3,.slice A4 l.l4.length c4,.slice A5 l.l5.length c5]) (t:=39) ?hr ?_;(case hd=>rfl);(case hg=>rfl);(case hr=>first|(go_simp;done)|(go_simp;rfl));intro g4 hg_ w4 hbx_ hb_;have BK4:=Aside0.mk hbx_;have g4ge:w.heap.size≤g4:=(by have:=below_size HB.out;omega);have g4GE:=Aside0.mk g4ge;clear g4ge;have HBn:=Aside0.mk (below_step HB.out hb_);clear HB hg_ hb_ hbx_;have HB:=HBn;clear HBn)|((with_reducible refine gate_dst (N:=5) rfl ?_);refine box_event ?hg (N:=5) ?hd (cs:=#[.slice B place.length cB]) (t:=25) ?hr ?_;(case hd=>rfl);(case hg=>rfl);(case hr=>first|(go_simp;done)|(go_simp;rfl));intro g5 hg_ w5 hbx_ hb_;have BK5:=Aside0.mk hbx_;have g5ge:w.heap.size≤g5:=(by have:=below_size HB.out;omega);have g5GE:=Aside0.mk g5ge;clear g5ge;have HBn:=Aside0.mk (below_step HB.out hb_);have z_:=Aside0.mk (blk_below BK4.out hb_);clear BK4;have BK4:=z_;clear z_;clear HB hg_ hb_ hbx_;have HB:=HBn;clear HBn)|((with_reducible refine gate_dst (N:=6) rfl ?_);refine box_event ?hg (N:=6) ?hd (cs:=#[.int .i64 cake]) (t:=3) ?hr ?_;(case hd=>rfl);(case hg=>rfl);(case hr=>first|(go_simp;done)|(go_simp;rfl));intro g6 hg_ w6 hbx_ hb_;have BK6:=Aside0.mk hbx_;have g6ge:w.heap.size≤g6:=(by have:=below_size HB.out;omega);have g6GE:=Aside0.mk g6ge;clear g6ge;have HBn:=Aside0.mk (below_step HB.out hb_);have z_:=Aside0.mk (blk_below BK4.out hb_);clear BK4;have BK4:=z_;clear z_;have z_:=Aside0.mk (blk_below BK5.out hb_);clear BK5;have BK5:=z_;clear z_;clear HB hg_ hb_ hbx_;have HB:=HBn;clear HBn)|((with_reducible refine gate_dst (N:=7) rfl ?_);refine box_event ?hg (N:=7) ?hd (cs:=#[.int .i64 day]) (t:=3) ?hr ?_;(case hd=>rfl);(case hg=>rfl);(case hr=>first|(go_simp;done)|(go_simp;rfl));intro g7 hg_ w7 hbx_ hb_;have BK7:=Aside0.mk hbx_;have g7ge:w.heap.size≤g7:=(by have:=below_size HB.out;omega);have g7GE:=Aside0.mk g7ge;clear g7ge;have HBn:=Aside0.mk (below_step HB.out hb_);have z_:=Aside0.mk (blk_below BK4.out hb_);clear BK4;have BK4:=z_;clear z_;have z_:=Aside0.mk (blk_below BK5.out hb_);clear BK5;have BK5:=z_;clear z_;have z_:=Aside0.mk (blk_below BK6.out hb_);clear BK6;have BK6:=z_;clear z_;clear HB hg_ hb_ hbx_;have HB:=HBn;clear HBn;have f0:w7.cell? ⟨g4,0,none⟩=some (.int .i64 l.a0):=(blk_cell BK4.out 0).trans rfl;have f1:w7.cell? ⟨g4,1,none⟩=some (.slice A1 l.l1.length c1):=(blk_cell BK4.out 1).trans rfl;have f2:w7.cell? ⟨g4,2,none⟩=some (.slice A2 l.l2.length c2):=(blk_cell BK4.out 2).trans rfl;have f3:w7.cell? ⟨g4,3,none⟩=some (.slice A3 l.l3.length c3):=(blk_cell BK4.out 3).trans rfl;have f4:w7.cell? ⟨g4,4,none⟩=some (.slice A4 l.l4.length c4):=(blk_cell BK4.out 4).trans rfl;have f5:w7.cell? ⟨g4,5,none⟩=some (.slice A5 l.l5.length c5):=(blk_cell BK4.out 5).trans rfl)|(go_at_call 72;go_must (refine(L_asked.calls ⟨A1,c1,A2,c2,A3,c3,A4,c4,A5,c5⟩ l 78 #[.pointer (some ⟨g4,0,none⟩),.pointer (some ⟨g5,0,none⟩),.pointer (some ⟨g6,0,none⟩),.pointer (some ⟨g7,0,none⟩)] _ _ (HR.out.below HB.out) (fun hf W hb=>dry1_call ⟨A1,c1,A2,c2,A3,c3,A4,c4,A5,c5⟩ l B cB place g4 g5 g6 g7 cake day W ⟨(HR.out.below HB.out).below hb,(valid_of hf).shelf3,(valid_of hf).cake5,Kd.C_below (Kd.C_below HRB.out HB.out) hb,blk_below BK4.out hb,blk_below BK5.out hb⟩ (blk_below BK6.out hb) (blk_below BK7.out hb)) (fun w=>enters_ Try.func78 (by kernel_rfl) rfl _ w)).mono ?_;clear f0 f1 f2 f3 f4 f5;rintro e wA hA;have hbA:=hA.1;replace hA:=job_of (HR.out.below HB.out) hA;rw [←HBB.out,←HBV.out]at hA;replace BK4:=Aside0.mk (blk_below BK4.out hbA);replace BK5:=Aside0.mk (blk_below BK5.out hbA);replace BK6:=Aside0.mk (blk_below BK6.out hbA);replace BK7:=Aside0.mk (blk_below BK7.out hbA);rcases hA with⟨hz0,rfl,_⟩|⟨hz0,gW,gM,A7,c7,rfl,hJ,hM⟩;rotate_left;exact absurd hz0 HZ.out;replace HB:=Aside0.mk (below_step HB.out hbA);clear hbA hz0)))
  go_ret2
  exact⟨by rw [HOUT.out,if_neg HZ.out];rfl,HB.out⟩
end Go.Proofs.Ytjifalohjlihaaa.Q
end
section
namespace Go.Proofs.Ytjifalohjlihaaa.Q
set_option linter.unusedVariables false
open Go.BigFrame Go.RowKit Go.Shelf Go.Proofs.YtjifalohjlihaaaW.PrintWords Go.Proofs.YtjifalohjlihaaaW.PrintLast Go.Proofs.YtjifalohjlihaaaW.PrintMore
def SL.dayErr (l:SL) (place:List Int) (cake:Int):Int:=if l.err (decide (l.isPlace place)&&l.is cake)≠0 then l.err (decide (l.isPlace place)&&l.is cake)else if l.sure cake (rd place cake)=12 then 10 else 0
def SL.dayOf (l:SL) (place:List Int) (cake:Int):Int:=if l.dayErr place cake=0 then l.sure cake (rd place cake)else 0
set_option maxRecDepth 100000 in
set_option maxHeartbeats 6400000 in
theorem Day.calls (x:SA) (l:SL) (B:Option Addr) (cB:Nat) (place:List Int) (cake:Int) (w:World) (hr:Rd w x l) (hB:Kd.C (Kd.int .i64) w B place.length place) (hcB:place.length≤cB):
  Calls Try.prog 33 #[.agg (x.cells l),.slice B place.length cB,.int .i64 cake] w fun e w'=>e= .returned (.tuple #[.int .i64 (l.dayOf place cake),.int .i64 (l.dayErr place cake)])∧Below w.heap.size w w':=by
 obtain⟨A1,c1,A2,c2,A3,c3,A4,c4,A5,c5⟩:=x
 have HB:=Aside0.mk (Below.refl w.heap.size w)
 have HR:=Aside0.mk hr
 have HRB:=Aside0.mk hB
 obtain⟨b,hbv⟩:∃b,b=(decide (l.isPlace place)&&l.is cake):=⟨_,rfl⟩
 obtain⟨er,her⟩:∃er,er=l.err b:=⟨_,rfl⟩
 obtain⟨dv,hdv⟩:∃dv,dv=l.dayOf place cake:=⟨_,rfl⟩
 obtain⟨de,hde⟩:∃de,de=l.dayErr place cake:=⟨_,rfl⟩
 rw [←hdv,←hde]
 have HDE:=Aside0.mk (show de=if er≠0 then er else if l.sure cake (rd place cake)=12 then 10 else 0 by rw [hde,her,hbv];rfl)
 have HDV:=Aside0.mk (show dv=if de=0 then l.sure cake (rd place cake)else 0 by rw [hdv,hde];rfl)
 have HBV:=Aside0.mk her
 have HBB:=Aside0.mk hbv
 clear hr hB her hbv hdv hde
 go_enter Try.func33,Try.ntmps33
 by_cases hz:er=0
 ·have hzb:(er !=0)=false:=by rw [hz];rfl
  have HZ:=Aside0.mk hz
  obtain⟨hf0,hb0,_⟩:=err_zero (HBV.out.symm.trans hz)
  have hpi:=HBB.out.symm.trans hb0
  rw [Bool.and_eq_true,decide_eq_true_eq]at hpi
  obtain⟨hsp,pc0,pc1⟩:=place_spot hpi.1 hpi.2
  have HSP:=Aside0.mk hsp
  have HF:=Aside0.mk hf0
  have pl5:place.length≤5:=by rw [hpi.1.1];exact(valid_of hf0).cake5
  clear hz hf0 hb0 hpi hsp
  go_wp2_with (first|((with_reducible refine gate_dst (N:=3) rfl ?_);refine box_event ?hg (N:=3) ?hd (cs:=#[.int .i64 l.a0,.slice A1 l.l1.length c1,.slice A2 l.l2.length c2,.slice A3 l.l3.length c3,.slice A4 l.l4.length c4,.slice A5 l.l5.length c5]) (t:=39) ?hr ?_;(case hd=>rfl);(case hg=>rfl);(case hr=>first|(go_simp;done)|(go_simp;rfl));intro g3 hg_ w3 hbx_ hb_;have BK3:=Aside0.mk hbx_;have g3ge:w.heap.size≤g3:=(by have:=below_size HB.out;omega);have g3GE:=Aside0.mk g3ge;clear g3ge;have HBn:=Aside0.mk (below_step HB.out hb_);clear HB hg_ hb_ hbx_;have HB:=HBn;clear HBn)|((with_reducible refine gate_dst (N:=4) rfl ?_);refine box_event ?hg (N:=4) ?hd (cs:=#[.slice B place.length cB]) (t:=25) ?hr ?_;(case hd=>rfl);(case hg=>rfl);(case hr=>first|(go_simp;done)|(go_simp;rfl));intro g4 hg_ w4 hbx_ hb_;have BK4:=Aside0.mk hbx_;have g4ge:w.heap.size≤g4:=(by have:=below_size HB.out;omega);have g4GE:=Aside0.mk g4ge;clear g4ge;have HBn:=Aside0.mk (below_step HB.out hb_);have z_:=Aside0.mk (blk_below BK3.out hb_);clear BK3;have BK3:=z_;clear z_;clear HB hg_ hb_ hbx_;have HB:=HBn;clear HBn)|((with_reducible refine gate_dst (N:=5) rfl ?_);refine box_event ?hg (N:=5) ?hd (cs:=#[.int .i64 cake]) (t:=3) ?hr ?_;(case hd=>rfl);(case hg=>rfl);(case hr=>first|(go_simp;done)|(go_simp;rfl));intro g5 hg_ w5 hbx_ hb_;have BK5:=Aside0.mk hbx_;have g5ge:w.heap.size≤g5:=(by have:=below_size HB.out;omega);have g5GE:=Aside0.mk g5ge;clear g5ge;have HBn:=Aside0.mk (below_step HB.out hb_);have z_:=Aside0.mk (blk_below BK3.out hb_);clear BK3;have BK3:=z_;clear z_;have z_:=Aside0.mk (blk_below BK4.out hb_);clear BK4;have BK4:=z_;clear z_;clear HB hg_ hb_ hbx_;have HB:=HBn;clear HBn;have f0:w5.cell? ⟨g3,0,none⟩=some (.int .i64 l.a0):=(blk_cell BK3.out 0).trans rfl;have f1:w5.cell? ⟨g3,1,none⟩=some (.slice A1 l.l1.length c1):=(blk_cell BK3.out 1).trans rfl;have f2:w5.cell? ⟨g3,2,none⟩=some (.slice A2 l.l2.length c2):=(blk_cell BK3.out 2).trans rfl;have f3:w5.cell? ⟨g3,3,none⟩=some (.slice A3 l.l3.length c3):=(blk_cell BK3.out 3).trans rfl;have f4:w5.cell? ⟨g3,4,none⟩=some (.slice A4 l.l4.length c4):=(blk_cell BK3.out 4).trans rfl;have f5:w5.cell? ⟨g3,5,none⟩=some (.slice A5 l.l5.length c5):=(blk_cell BK3.out 5).trans rfl)|(go_at_call 72;go_must (refine(L_asked.calls ⟨A1,c1,A2,c2,A3,c3,A4,c4,A5,c5⟩ l 82 #[.pointer (some ⟨g3,0,none⟩),.pointer (some ⟨g4,0,none⟩),.pointer (some ⟨g5,0,none⟩)] _ _ (HR.out.below HB.out) (fun hf W hb=>day1_call ⟨A1,c1,A2,c2,A3,c3,A4,c4,A5,c5⟩ l B cB place g3 g4 g5 cake W ⟨(HR.out.below HB.out).below hb,(valid_of hf).shelf3,(valid_of hf).cake5,Kd.C_below (Kd.C_below HRB.out HB.out) hb,blk_below BK3.out hb,blk_below BK4.out hb⟩ (blk_below BK5.out hb)) (fun w=>enters_ Try.func82 (by kernel_rfl) rfl _ w)).mono ?_;clear f0 f1 f2 f3 f4 f5;rintro e wA hA;have hbA:=hA.1;replace hA:=job_of (HR.out.below HB.out) hA;rw [←HBB.out,←HBV.out]at hA;replace BK3:=Aside0.mk (blk_below BK3.out hbA);replace BK4:=Aside0.mk (blk_below BK4.out hbA);replace BK5:=Aside0.mk (blk_below BK5.out hbA);rcases hA with⟨hz0,rfl,_⟩|⟨hz0,gW,gM,A7,c7,rfl,hJ,hM⟩;exact absurd HZ.out hz0;have J:=Aside0.mk hJ;have HM:=Aside0.mk hM;have w5z:=Aside0.mk HB.out.size;replace HB:=Aside0.mk (below_step HB.out hbA);clear hbA hz0 hJ hM)))
  obtain⟨adp,ep,fp⟩:=rowB HRB.out cake pc0 pc1
  subst ep
  replace BK3:=Aside0.mk (blk_drew BK3.out)
  replace BK4:=Aside0.mk (blk_drew BK4.out)
  replace BK5:=Aside0.mk (blk_drew BK5.out)
  replace J:=Aside0.mk (J.out.below (below_drew1 (Below.refl _ _)))
  replace HM:=Aside0.mk (show l.Days wA.drew gM from HM.out)
  replace HB:=Aside0.mk (below_drew1 HB.out)
  refine start_ (n:=9) (S:=fun w'=>w'.cell? ⟨g5,0,none⟩=some (.int .i64 cake)∧w'.cell? ⟨g4,0,none⟩=some (.slice (some adp) place.length cB)∧w'.cell? (adp.add cake.toNat)=some (.int .i64 (rd place cake))) (ds:= [7,8]) #[false,false,false,false,false,false,false,false,false] (by kernel_rfl) rfl rfl ⟨(blk_cell BK5.out 0).trans rfl,(blk_cell BK4.out 0).trans rfl,((HB.out.cell (World.block_lt_of_cell? w _ fp)).trans fp)⟩ (fun hHeld=> ?_)
  generalize wA.drew=wd at BK3 BK4 BK5 J HM HB hHeld ⊢
  refine pure_ (i:=0) (N:=some 20) (v:= ?_) (a':= ?_) #[true,false,false,false,false,false,false,false,false] rfl rfl (by kernel_rfl) (fun _ _ _ h=>h) (Or.inl ⟨by rfl,?_⟩) ?_ ?_
  rotate_left
  ·intro w'
   go_simp
   with_reducible rfl
  rotate_left
  ·simp only [Act.put,List.setIfInBounds_toArray,List.set_cons_zero,List.set_cons_succ];rfl
  refine take_ (i:=1) (N:=some 21) (v:= ?_) (a':= ?_) #[true,true,false,false,false,false,false,false,false] rfl rfl (by kernel_rfl) (fun _ _ _ h=>h) (Or.inl ⟨by rfl,?_⟩) hHeld ?_ ?_
  rotate_left
  ·rintro w' ⟨s0,s1,s2⟩
   go_simp
   with_reducible rfl
  rotate_left
  ·simp only [Act.put,List.setIfInBounds_toArray,List.set_cons_zero,List.set_cons_succ];rfl
  refine take_ (i:=2) (N:=some 22) (v:= ?_) (a':= ?_) #[true,true,true,false,false,false,false,false,false] rfl rfl (by kernel_rfl) (fun _ _ _ h=>h) (Or.inl ⟨by rfl,?_⟩) hHeld ?_ ?_
  rotate_left
  ·rintro w' ⟨s0,s1,s2⟩
   go_simp
   with_reducible rfl
  rotate_left
  ·simp only [Act.put,List.setIfInBounds_toArray,List.set_cons_zero,List.set_cons_succ];rfl
  refine take_ (i:=3) (N:=some 23) (v:= ?_) (a':= ?_) #[true,true,true,true,false,false,false,false,false] rfl rfl (by kernel_rfl) (fun _ _ _ h=>h) (Or.inl ⟨by rfl,?_⟩) hHeld ?_ ?_
  rotate_left
  ·rintro w' ⟨s0,s1,s2⟩
   go_simp
   with_reducible rfl
  rotate_left
  ·simp only [Act.put,List.setIfInBounds_toArray,List.set_cons_zero,List.set_cons_succ];rfl
  refine take_ (i:=4) (N:=some 24) (v:= ?_) (a':= ?_) #[true,true,true,true,true,false,false,false,false] rfl rfl (by kernel_rfl) (fun _ _ _ h=>h) (Or.inl ⟨by rfl,?_⟩) hHeld ?_ ?_
  rotate_left
  ·rintro w' ⟨s0,s1,s2⟩
   go_simp
   with_reducible rfl
  rotate_left
  ·simp only [Act.put,List.setIfInBounds_toArray,List.set_cons_zero,List.set_cons_succ];rfl
  refine take_ (i:=5) (N:=some 25) (v:= ?_) (a':= ?_) #[true,true,true,true,true,true,false,false,false] rfl rfl (by kernel_rfl) (fun _ _ _ h=>h) (Or.inl ⟨by rfl,?_⟩) hHeld ?_ ?_
  rotate_left
  ·rintro w' ⟨s0,s1,s2⟩
   go_simp
   with_reducible rfl
  rotate_left
  ·simp only [Act.put,List.setIfInBounds_toArray,List.set_cons_zero,List.set_cons_succ];rfl
  refine pure_ (i:=6) (N:=some 26) (v:= ?_) (a':= ?_) #[true,true,true,true,true,true,true,false,false] rfl rfl (by kernel_rfl) (fun _ _ _ h=>h) (Or.inl ⟨by rfl,?_⟩) ?_ ?_
  rotate_left
  ·intro w'
   go_simp
   with_reducible rfl
  rotate_left
  ·simp only [Act.put,List.setIfInBounds_toArray,List.set_cons_zero,List.set_cons_succ];rfl
  refine last_ (i:=7) (N:=some 27) #[true,true,true,true,true,true,true,true,false] rfl rfl (by kernel_rfl) (by decide) (fun K hK=> ?_)
  refine goes_ Try.func83 (by kernel_rfl) rfl #[.pointer (some ⟨gW,0,none⟩),.agg #[.int .i64 cake,.int .i64 (rd place cake)]] (by rfl) rfl rfl (by(try simp only [List.map_toArray,List.map_cons,List.map_nil]);rfl) ?_
  refine(sure.calls _ l gW gM A7 c7 cake (rd place cake) w5 wd J.out HM.out HF.out HSP.out).mono ?_
  rintro e wl ⟨rfl,hj,hm,ht⟩
  refine⟨_,rfl,?_⟩
  refine hK.out _ _ ?_
  clear hK K
  refine norm_ (a':= ?_) ?_ ?_
  rotate_left
  ·show Act.put _ (some 27) _=_;simp only [Act.put,List.setIfInBounds_toArray,List.set_cons_zero,List.set_cons_succ];rfl
  refine pure_ (i:=8) (N:=some 10) (v:= ?_) (a':= ?_) #[true,true,true,true,true,true,true,true,true] rfl rfl (by kernel_rfl) (fun _ _ _ h=>h) (Or.inl ⟨by rfl,?_⟩) ?_ ?_
  rotate_left
  ·intro w'
   go_simp
   with_reducible rfl
  rotate_left
  ·simp only [Act.put,List.setIfInBounds_toArray,List.set_cons_zero,List.set_cons_succ];rfl
  refine done_ (by kernel_rfl) ?_
  have hbl:Below w.heap.size w wl:=Turn.below HB.out ht (fun k hk=>by have h1:=J.out.gMge;have h2:=w5z.out;omega) HB.out.size
  obtain⟨d,hd⟩:∃d,d=l.sure cake (rd place cake):=⟨_,rfl⟩
  rw [←hd]
  by_cases h12:d=12
  ·have hb12:(d==12)=true:=by rw [h12];rfl
   have HE2:=Aside0.mk (show de=10 by rw [HDE.out,if_neg (by rw [HZ.out];simp),←hd,if_pos h12])
   have HV2:=Aside0.mk (show dv=0 by rw [HDV.out,HE2.out];rfl)
   clear h12 hd
   go_wp2
   go_ret2
   exact⟨by rw [HV2.out,HE2.out];rfl,hbl⟩
  ·have hb12:(d==12)=false:=by rw [beq_eq_false_iff_ne];exact h12
   have HE2:=Aside0.mk (show de=0 by rw [HDE.out,if_neg (by rw [HZ.out];simp),←hd,if_neg h12])
   have HV2:=Aside0.mk (show dv=d by rw [HDV.out,if_pos HE2.out,hd])
   clear h12 hd
   go_wp2
   go_ret2
   exact⟨by rw [HV2.out,HE2.out];rfl,hbl⟩
 ·have hzb:(er !=0)=true:=by simpa using hz
  have HZ:=Aside0.mk hz
  have HE2:=Aside0.mk (show de=er by rw [HDE.out,if_pos hz])
  have HV2:=Aside0.mk (show dv=0 by rw [HDV.out,HE2.out,if_neg hz])
  clear hz
  go_wp2_with (first|((with_reducible refine gate_dst (N:=3) rfl ?_);refine box_event ?hg (N:=3) ?hd (cs:=#[.int .i64 l.a0,.slice A1 l.l1.length c1,.slice A2 l.l2.length c2,.slice A3 l.l3.length c3,.slice A4 l.l4.length c4,.slice A5 l.l5.length c5]) (t:=39) ?hr ?_;(case hd=>rfl);(case hg=>rfl);(case hr=>first|(go_simp;done)|(go_simp;rfl));intro g3 hg_ w3 hbx_ hb_;have BK3:=Aside0.mk hbx_;have g3ge:w.heap.size≤g3:=(by have:=below_size HB.out;omega);have g3GE:=Aside0.mk g3ge;clear g3ge;have HBn:=Aside0.mk (below_step HB.out hb_);clear HB hg_ hb_ hbx_;have HB:=HBn;clear HBn)|((with_reducible refine gate_dst (N:=4) rfl ?_);refine box_event ?hg (N:=4) ?hd (cs:=#[.slice B place.length cB]) (t:=25) ?hr ?_;(case hd=>rfl);(case hg=>rfl);(case hr=>first|(go_simp;done)|(go_simp;rfl));intro g4 hg_ w4 hbx_ hb_;have BK4:=Aside0.mk hbx_;have g4ge:w.heap.size≤g4:=(by have:=below_size HB.out;omega);have g4GE:=Aside0.mk g4ge;clear g4ge;have HBn:=Aside0.mk (below_step HB.out hb_);have z_:=Aside0.mk (blk_below BK3.out hb_);clear BK3;have BK3:=z_;clear z_;clear HB hg_ hb_ hbx_;have HB:=HBn;clear HBn)|((with_reducible refine gate_dst (N:=5) rfl ?_);refine box_event ?hg (N:=5) ?hd (cs:=#[.int .i64 cake]) (t:=3) ?hr ?_;(case hd=>rfl);(case hg=>rfl);(case hr=>first|(go_simp;done)|(go_simp;rfl));intro g5 hg_ w5 hbx_ hb_;have BK5:=Aside0.mk hbx_;have g5ge:w.heap.size≤g5:=(by have:=below_size HB.out;omega);have g5GE:=Aside0.mk g5ge;clear g5ge;have HBn:=Aside0.mk (below_step HB.out hb_);have z_:=Aside0.mk (blk_below BK3.out hb_);clear BK3;have BK3:=z_;clear z_;have z_:=Aside0.mk (blk_below BK4.out hb_);clear BK4;have BK4:=z_;clear z_;clear HB hg_ hb_ hbx_;have HB:=HBn;clear HBn;have f0:w5.cell? ⟨g3,0,none⟩=some (.int .i64 l.a0):=(blk_cell BK3.out 0).trans rfl;have f1:w5.cell? ⟨g3,1,none⟩=some (.slice A1 l.l1.length c1):=(blk_cell BK3.out 1).trans rfl;have f2:w5.cell? ⟨g3,2,none⟩=some (.slice A2 l.l2.length c2):=(blk_cell BK3.out 2).trans rfl;have f3:w5.cell? ⟨g3,3,none⟩=some (.slice A3 l.l3.length c3):=(blk_cell BK3.out 3).trans rfl;have f4:w5.cell? ⟨g3,4,none⟩=some (.slice A4 l.l4.length c4):=(blk_cell BK3.out 4).trans rfl;have f5:w5.cell? ⟨g3,5,none⟩=some (.slice A5 l.l5.length c5):=(blk_cell BK3.out 5).trans rfl)|(go_at_call 72;go_must (refine(L_asked.calls ⟨A1,c1,A2,c2,A3,c3,A4,c4,A5,c5⟩ l 82 #[.pointer (some ⟨g3,0,none⟩),.pointer (some ⟨g4,0,none⟩),.pointer (some ⟨g5,0,none⟩)] _ _ (HR.out.below HB.out) (fun hf W hb=>day1_call ⟨A1,c1,A2,c2,A3,c3,A4,c4,A5,c5⟩ l B cB place g3 g4 g5 cake W ⟨(HR.out.below HB.out).below hb,(valid_of hf).shelf3,(valid_of hf).cake5,Kd.C_below (Kd.C_below HRB.out HB.out) hb,blk_below BK3.out hb,blk_below BK4.out hb⟩ (blk_below BK5.out hb)) (fun w=>enters_ Try.func82 (by kernel_rfl) rfl _ w)).mono ?_;clear f0 f1 f2 f3 f4 f5;rintro e wA hA;have hbA:=hA.1;replace hA:=job_of (HR.out.below HB.out) hA;rw [←HBB.out,←HBV.out]at hA;replace BK3:=Aside0.mk (blk_below BK3.out hbA);replace BK4:=Aside0.mk (blk_below BK4.out hbA);replace BK5:=Aside0.mk (blk_below BK5.out hbA);rcases hA with⟨hz0,rfl,_⟩|⟨hz0,gW,gM,A7,c7,rfl,hJ,hM⟩;rotate_left;exact absurd hz0 HZ.out;replace HB:=Aside0.mk (below_step HB.out hbA);clear hbA hz0)))
  go_ret2
  exact⟨by rw [HV2.out,HE2.out];rfl,HB.out⟩
end Go.Proofs.Ytjifalohjlihaaa.Q
end
section
namespace Go.Proofs.Ytjifalohjlihaaa.Q
set_option linter.unusedVariables false
open Go.BigFrame Go.RowKit Go.Shelf Go.Proofs.YtjifalohjlihaaaW.PrintWords Go.Proofs.YtjifalohjlihaaaW.PrintLast Go.Proofs.YtjifalohjlihaaaW.PrintMore
def SL.stuckFrom (l:SL) (place:List Int):Nat→Int→Option Int
 |0,_=>none
 |k+1,i=>if l.good i (rd place i)=12 then some i else l.stuckFrom place k (i+1)
def SL.stuckErr (l:SL) (place:List Int):Int:=if l.err (decide (l.isPlace place))≠0 then l.err (decide (l.isPlace place))else if l.stuckFrom place place.length 0=none then 7 else 0
def SL.stuckOf (l:SL) (place:List Int):Int:=if l.stuckErr place=0 then(l.stuckFrom place place.length 0).getD 0 else 0
theorem place_at {l:SL} {place:List Int} (hp:l.isPlace place) {i:Int} (h0:0≤i) (h1:i < place.length):Spot l i (rd place i):=by
 obtain⟨h2,h3,_⟩:=hp
 have h4:=h3 i.toNat (by omega)
 have e:((i.toNat:Nat):Int)=i:=by omega
 rw [e]at h4
 exact⟨h0,by omega,h4.1,h4.2⟩
set_option maxRecDepth 100000 in
set_option maxHeartbeats 6400000 in
theorem Stuck.calls (x:SA) (l:SL) (B:Option Addr) (cB:Nat) (place:List Int) (w:World) (hr:Rd w x l) (hB:Kd.C (Kd.int .i64) w B place.length place) (hcB:place.length≤cB):
  Calls Try.prog 34 #[.agg (x.cells l),.slice B place.length cB] w fun e w'=>e= .returned (.tuple #[.int .i64 (l.stuckOf place),.int .i64 (l.stuckErr place)])∧Below w.heap.size w w':=by
 obtain⟨A1,c1,A2,c2,A3,c3,A4,c4,A5,c5⟩:=x
 have HB:=Aside0.mk (Below.refl w.heap.size w)
 have HR:=Aside0.mk hr
 have HRB:=Aside0.mk hB
 obtain⟨b,hbv⟩:∃b,b=(decide (l.isPlace place)):=⟨_,rfl⟩
 obtain⟨er,her⟩:∃er,er=l.err b:=⟨_,rfl⟩
 obtain⟨dv,hdv⟩:∃dv,dv=l.stuckOf place:=⟨_,rfl⟩
 obtain⟨de,hde⟩:∃de,de=l.stuckErr place:=⟨_,rfl⟩
 rw [←hdv,←hde]
 have HDE:=Aside0.mk (show de=if er≠0 then er else if l.stuckFrom place place.length 0=none then 7 else 0 by rw [hde,her,hbv];rfl)
 have HDV:=Aside0.mk (show dv=if de=0 then(l.stuckFrom place place.length 0).getD 0 else 0 by rw [hdv,hde];rfl)
 have HBV:=Aside0.mk her
 have HBB:=Aside0.mk hbv
 clear hr hB her hbv hdv hde
 go_enter Try.func34,Try.ntmps34
 by_cases hz:er=0
 ·have hzb:(er !=0)=false:=by rw [hz];rfl
  have HZ:=Aside0.mk hz
  obtain⟨hf0,hb0,_⟩:=err_zero (HBV.out.symm.trans hz)
  have hpi:=HBB.out.symm.trans hb0
  rw [decide_eq_true_eq]at hpi
  have HP:=Aside0.mk hpi
  have HF:=Aside0.mk hf0
  have pl5:place.length≤5:=by rw [hpi.1];exact(valid_of hf0).cake5
  clear hz hf0 hb0 hpi
  go_wp2_with (first|((with_reducible refine gate_dst (N:=2) rfl ?_);refine box_event ?hg (N:=2) ?hd (cs:=#[.int .i64 l.a0,.slice A1 l.l1.length c1,.slice A2 l.l2.length c2,.slice A3 l.l3.length c3,.slice A4 l.l4.length c4,.slice A5 l.l5.length c5]) (t:=39) ?hr ?_;(case hd=>rfl);(case hg=>rfl);(case hr=>first|(go_simp;done)|(go_simp;rfl));intro g2 hg_ w2 hbx_ hb_;have BK2:=Aside0.mk hbx_;have g2ge:w.heap.size≤g2:=(by have:=below_size HB.out;omega);have g2GE:=Aside0.mk g2ge;clear g2ge;have HBn:=Aside0.mk (below_step HB.out hb_);clear HB hg_ hb_ hbx_;have HB:=HBn;clear HBn)|((with_reducible refine gate_dst (N:=3) rfl ?_);refine box_event ?hg (N:=3) ?hd (cs:=#[.slice B place.length cB]) (t:=25) ?hr ?_;(case hd=>rfl);(case hg=>rfl);(case hr=>first|(go_simp;done)|(go_simp;rfl));intro g3 hg_ w3 hbx_ hb_;have BK3:=Aside0.mk hbx_;have g3ge:w.heap.size≤g3:=(by have:=below_size HB.out;omega);have g3GE:=Aside0.mk g3ge;clear g3ge;have HBn:=Aside0.mk (below_step HB.out hb_);have z_:=Aside0.mk (blk_below BK2.out hb_);clear BK2;have BK2:=z_;clear z_;clear HB hg_ hb_ hbx_;have HB:=HBn;clear HBn;have f0:w3.cell? ⟨g2,0,none⟩=some (.int .i64 l.a0):=(blk_cell BK2.out 0).trans rfl;have f1:w3.cell? ⟨g2,1,none⟩=some (.slice A1 l.l1.length c1):=(blk_cell BK2.out 1).trans rfl;have f2:w3.cell? ⟨g2,2,none⟩=some (.slice A2 l.l2.length c2):=(blk_cell BK2.out 2).trans rfl;have f3:w3.cell? ⟨g2,3,none⟩=some (.slice A3 l.l3.length c3):=(blk_cell BK2.out 3).trans rfl;have f4:w3.cell? ⟨g2,4,none⟩=some (.slice A4 l.l4.length c4):=(blk_cell BK2.out 4).trans rfl;have f5:w3.cell? ⟨g2,5,none⟩=some (.slice A5 l.l5.length c5):=(blk_cell BK2.out 5).trans rfl)|(go_at_call 72;go_must (refine(L_asked.calls ⟨A1,c1,A2,c2,A3,c3,A4,c4,A5,c5⟩ l 84 #[.pointer (some ⟨g2,0,none⟩),.pointer (some ⟨g3,0,none⟩)] _ _ (HR.out.below HB.out) (fun hf W hb=>stuck1_call ⟨A1,c1,A2,c2,A3,c3,A4,c4,A5,c5⟩ l B cB place g2 g3 W ⟨(HR.out.below HB.out).below hb,(valid_of hf).shelf3,(valid_of hf).cake5,Kd.C_below (Kd.C_below HRB.out HB.out) hb,blk_below BK2.out hb,blk_below BK3.out hb⟩) (fun w=>enters_ Try.func84 (by kernel_rfl) rfl _ w)).mono ?_;clear f0 f1 f2 f3 f4 f5;rintro e wA hA;have hbA:=hA.1;replace hA:=job_of (HR.out.below HB.out) hA;rw [←HBB.out,←HBV.out]at hA;replace BK2:=Aside0.mk (blk_below BK2.out hbA);replace BK3:=Aside0.mk (blk_below BK3.out hbA);rcases hA with⟨hz0,rfl,_⟩|⟨hz0,gW,gM,A7,c7,rfl,hJ,hM⟩;exact absurd HZ.out hz0;have J:=Aside0.mk hJ;have HM:=Aside0.mk hM;have w5z:=Aside0.mk HB.out.size;replace HB:=Aside0.mk (below_step HB.out hbA);clear hbA hz0 hJ hM;have fB:wA.cell? ⟨g3,0,none⟩=some (.slice B place.length cB):=(blk_cell BK3.out 0).trans rfl)))
  clear fB
  go_loopw [21] (fun v21 wr=>∃i:Int,v21= .int .i64 i∧0≤i∧i≤place.length∧Aside0 (l.stuckFrom place (place.length-i).toNat i=l.stuckFrom place place.length 0)∧Aside0 (Job w3 wr ⟨A1,c1,A2,c2,A3,c3,A4,c4,A5,c5⟩ l gW gM A7 c7)∧Aside0 (l.Days wr gM)∧Aside0 (Below w.heap.size w wr)) (fun v21 _=>(place.length-intOf v21).toNat)
  case atStart=>exact⟨0,rfl,by omega,by omega,⟨by simp⟩,J,HM,HB⟩
  case round=>
   clear BK2 BK3 J HM HB
   obtain⟨i,rfl,i0,i1,HS,J,HM,HB⟩:=hrel
   by_cases hlt:i < place.length
   ·obtain⟨adp,ep,fp⟩:=rowB (Kd.C_below HRB.out HB.out) i i0 hlt
    subst ep
    obtain⟨gd,hgd⟩:∃gd,gd=l.good i (rd place i):=⟨_,rfl⟩
    have hstep:l.stuckFrom place place.length 0=if gd=12 then some i else l.stuckFrom place (place.length-(i+1)).toNat (i+1):=by
     rw [←HS.out,hgd]
     have hk:(place.length-i).toNat=(place.length-(i+1)).toNat+1:=by omega
     rw [hk];rfl
    have HST:=Aside0.mk hstep
    have hcall:Calls Try.prog 85 #[.pointer (some ⟨gW,0,none⟩),.agg #[.int .i64 i,.int .i64 (rd place i)]] wr fun e w'=>e= .returned (.int .i64 gd)∧Job w3 w' ⟨A1,c1,A2,c2,A3,c3,A4,c4,A5,c5⟩ l gW gM A7 c7∧l.Days w' gM∧Turn (fun k=>k=gM) wr w':=by
     rw [hgd];exact good.calls _ l gW gM A7 c7 i (rd place i) w3 wr J.out HM.out HF.out (place_at HP.out i0 hlt)
    have HC:=Aside0.mk hcall
    clear hcall hgd hstep HS
    have hwi:IntKind.i64.wrap (i+1)=i+1:=IntWalk.i64_in _ (by omega)
    by_cases hd:gd=12
    ·have hdb:(gd==12)=true:=by rw [hd];rfl
     have HE2:=Aside0.mk (show de=0 by rw [HDE.out,if_neg (by rw [HZ.out];simp),HST.out,if_pos hd];simp)
     have HV2:=Aside0.mk (show dv=i by rw [HDV.out,if_pos HE2.out,HST.out,if_pos hd];rfl)
     clear hd
     go_wp2_with (go_at_call 85;go_must (refine HC.out.mono ?_;clear fp;rintro e wd0 ⟨rfl,hj,hm,ht⟩))
     go_ret2
     exact⟨by rw [HV2.out,HE2.out];rfl,Turn.below HB.out ht (fun k hk=>by have h1:=hj.gMge;have h2:=w5z.out;omega) HB.out.size⟩
    ·have hdb:(gd==12)=false:=by rw [beq_eq_false_iff_ne];exact hd
     have HD:=Aside0.mk hd
     clear hd
     go_wp2_with (go_at_call 85;go_must (refine HC.out.mono ?_;clear fp;rintro e wd0 ⟨rfl,hj,hm,ht⟩))
     exact⟨⟨i+1,rfl,by omega,by omega,⟨by rw [HST.out,if_neg HD.out]⟩,⟨hj⟩,⟨hm⟩,⟨Turn.below HB.out ht (fun k hk=>by have h1:=hj.gMge;have h2:=w5z.out;omega) HB.out.size⟩⟩,by simp [intOf];omega⟩
   ·have hie:i=place.length:=by omega
    have hnone:l.stuckFrom place place.length 0=none:=by rw [←HS.out,hie,Int.sub_self];rfl
    have HE2:=Aside0.mk (show de=7 by rw [HDE.out,if_neg (by rw [HZ.out];simp),if_pos hnone])
    have HV2:=Aside0.mk (show dv=0 by rw [HDV.out,HE2.out];rfl)
    clear hie hnone
    go_wp2
    go_ret2
    exact⟨by rw [HV2.out,HE2.out];rfl,HB.out⟩
 ·have hzb:(er !=0)=true:=by simpa using hz
  have HZ:=Aside0.mk hz
  have HE2:=Aside0.mk (show de=er by rw [HDE.out,if_pos hz])
  have HV2:=Aside0.mk (show dv=0 by rw [HDV.out,HE2.out,if_neg hz])
  clear hz
  go_wp2_with (first|((with_reducible refine gate_dst (N:=2) rfl ?_);refine box_event ?hg (N:=2) ?hd (cs:=#[.int .i64 l.a0,.slice A1 l.l1.length c1,.slice A2 l.l2.length c2,.slice A3 l.l3.length c3,.slice A4 l.l4.length c4,.slice A5 l.l5.length c5]) (t:=39) ?hr ?_;(case hd=>rfl);(case hg=>rfl);(case hr=>first|(go_simp;done)|(go_simp;rfl));intro g2 hg_ w2 hbx_ hb_;have BK2:=Aside0.mk hbx_;have g2ge:w.heap.size≤g2:=(by have:=below_size HB.out;omega);have g2GE:=Aside0.mk g2ge;clear g2ge;have HBn:=Aside0.mk (below_step HB.out hb_);clear HB hg_ hb_ hbx_;have HB:=HBn;clear HBn)|((with_reducible refine gate_dst (N:=3) rfl ?_);refine box_event ?hg (N:=3) ?hd (cs:=#[.slice B place.length cB]) (t:=25) ?hr ?_;(case hd=>rfl);(case hg=>rfl);(case hr=>first|(go_simp;done)|(go_simp;rfl));intro g3 hg_ w3 hbx_ hb_;have BK3:=Aside0.mk hbx_;have g3ge:w.heap.size≤g3:=(by have:=below_size HB.out;omega);have g3GE:=Aside0.mk g3ge;clear g3ge;have HBn:=Aside0.mk (below_step HB.out hb_);have z_:=Aside0.mk (blk_below BK2.out hb_);clear BK2;have BK2:=z_;clear z_;clear HB hg_ hb_ hbx_;have HB:=HBn;clear HBn;have f0:w3.cell? ⟨g2,0,none⟩=some (.int .i64 l.a0):=(blk_cell BK2.out 0).trans rfl;have f1:w3.cell? ⟨g2,1,none⟩=some (.slice A1 l.l1.length c1):=(blk_cell BK2.out 1).trans rfl;have f2:w3.cell? ⟨g2,2,none⟩=some (.slice A2 l.l2.length c2):=(blk_cell BK2.out 2).trans rfl;have f3:w3.cell? ⟨g2,3,none⟩=some (.slice A3 l.l3.length c3):=(blk_cell BK2.out 3).trans rfl;have f4:w3.cell? ⟨g2,4,none⟩=some (.slice A4 l.l4.length c4):=(blk_cell BK2.out 4).trans rfl;have f5:w3.cell? ⟨g2,5,none⟩=some (.slice A5 l.l5.length c5):=(blk_cell BK2.out 5).trans rfl)|(go_at_call 72;go_must (refine(L_asked.calls ⟨A1,c1,A2,c2,A3,c3,A4,c4,A5,c5⟩ l 84 #[.pointer (some ⟨g2,0,none⟩),.pointer (some ⟨g3,0,none⟩)] _ _ (HR.out.below HB.out) (fun hf W hb=>stuck1_call ⟨A1,c1,A2,c2,A3,c3,A4,c4,A5,c5⟩ l B cB place g2 g3 W ⟨(HR.out.below HB.out).below hb,(valid_of hf).shelf3,(valid_of hf).cake5,Kd.C_below (Kd.C_below HRB.out HB.out) hb,blk_below BK2.out hb,blk_below BK3.out hb⟩) (fun w=>enters_ Try.func84 (by kernel_rfl) rfl _ w)).mono ?_;clear f0 f1 f2 f3 f4 f5;rintro e wA hA;have hbA:=hA.1;replace hA:=job_of (HR.out.below HB.out) hA;rw [←HBB.out,←HBV.out]at hA;replace BK2:=Aside0.mk (blk_below BK2.out hbA);replace BK3:=Aside0.mk (blk_below BK3.out hbA);rcases hA with⟨hz0,rfl,_⟩|⟨hz0,gW,gM,A7,c7,rfl,hJ,hM⟩;rotate_left;exact absurd hz0 HZ.out;replace HB:=Aside0.mk (below_step HB.out hbA);clear hbA hz0)))
  go_ret2
  exact⟨by rw [HV2.out,HE2.out];rfl,HB.out⟩
end Go.Proofs.Ytjifalohjlihaaa.Q
end
section
namespace Go.Proofs.Ytjifalohjlihaaa.Q
set_option linter.unusedVariables false
open Go.BigFrame Go.RowKit Go.Shelf Go.Proofs.YtjifalohjlihaaaW.PrintWords Go.Proofs.YtjifalohjlihaaaW.PrintLast Go.Proofs.YtjifalohjlihaaaW.PrintMore
def SL.fits (l:SL) (day:Int) (p:List Int) (s:Int):Bool:=decide (0 <(rd_T135 l.l2 s).f0∧cnt p p.length s <(rd_T135 l.l2 s).f0∧l.good p.length s≤day)
def SL.search (l:SL) (day:Int):Nat→List Int→Option (List Int)
 |0,p=>some p
 |k+1,p=>(List.range l.l2.length).findSome? fun (s:Nat)=>if l.fits day p (s:Int)then l.search day k (p++ [(s:Int)])else none
theorem cnt_mono (p:List Int) (s:Int):∀(i j:Nat),i≤j→cnt p (i:Int) s≤cnt p (j:Int) s:=by
 intro i j h
 unfold cnt
 rw [Int.toNat_natCast,Int.toNat_natCast]
 exact Int.ofNat_le.2 (List.Sublist.count_le s (List.Sublist.trans (by rw [show p.take i=(p.take j).take i by rw [List.take_take,Nat.min_eq_left h]];exact List.take_sublist _ _) (List.Sublist.refl _)))
theorem cnt_under {p:List Int} {s ro:Int} (h0:0 < ro):∀n:Nat,n≤p.length→(∀i:Nat,1≤i→i≤n→cnt p (i:Int) s≠ro)→cnt p (n:Int) s < ro:=by
 intro n
 induction n with
 |zero=>intro _ _;rw [show((0:Nat):Int)=0 from rfl,cnt_zero];exact h0
 |succ n ih=>
  intro hn h
  have h1:=ih (by omega) (fun i a b=>h i a (by omega))
  have h2:=h (n+1) (by omega) (Nat.le_refl _)
  have h3:=cnt_step (place:=p) (i:=(n:Int)) (by omega) (by omega) s
  rw [show((n+1:Nat):Int)=(n:Int)+1 by omega]at h2 ⊢
  rw [h3]at h2 ⊢
  split at h2<;>split<;>omega
theorem lit_row {w:World} {g:Nat} {v:Int} (h:w.heap[g]? =some (.cells #[.int .i64 v] 3 (0,0))):Kd.C (Kd.int .i64) w (some ⟨g,0,none⟩) 1 [v]:=by
 refine⟨rfl,by simp,fun _=>⟨⟨g,0,none⟩,rfl,fun j q hq=> ?_⟩⟩
 have hj:j=0:=by
  have:=(List.getElem?_eq_some_iff.1 hq).1
  simpa using this
 subst hj
 obtain rfl:v=q:=by simpa using hq
 refine⟨[.int .i64 v],rfl,rfl,fun i u hu=> ?_⟩
 have hi:i=0:=by
  have:=(List.getElem?_eq_some_iff.1 hu).1
  simpa using this
 subst hi
 obtain rfl:Value.int .i64 v=u:=by simpa using hu
 exact(blk_cell h 0).trans rfl
structure PutS (w0 X:World) (x:SA) (l:SL) (gW gM:Nat) (A7:Option Addr) (c7:Nat) (gw gf gd gp:Nat) (day:Int):Prop where
 job:Job w0 X x l gW gM A7 c7
 memo:l.Days X gM
 bw:X.heap[gw]? =some (.cells #[.pointer (some ⟨gW,0,none⟩)] 120 (0,0))
 bd:X.heap[gd]? =some (.cells #[.int .i64 day] 3 (0,0))
 bp:X.heap[gp]? =some (.cells #[.func (.func 132) #[] #[.pointer (some ⟨gw,0,none⟩),.pointer (some ⟨gf,0,none⟩),.pointer (some ⟨gd,0,none⟩),.pointer (some ⟨gp,0,none⟩)]] 123 (0,0))
 bf:∃fv:Option Addr×Nat×Nat,X.heap[gf]? =some (.cells #[.slice fv.1 fv.2.1 fv.2.2] 25 (0,0))
 gfge:w0.heap.size≤gf
 n7f:∀a,A7=some a→a.block≠gf
abbrev okP (gM gf:Nat) (k:Nat):Prop:=k≠gM∧k≠gf
theorem PutS.below {w0 X Y:World} {x:SA} {l:SL} {gW gM:Nat} {A7:Option Addr} {c7 gw gf gd gp:Nat} {day:Int} (h:PutS w0 X x l gW gM A7 c7 gw gf gd gp day) (hb:Below X.heap.size X Y):PutS w0 Y x l gW gM A7 c7 gw gf gd gp day:=
 ⟨h.job.below hb,h.memo.keep (hb.block gM h.memo.lt),blk_below h.bw hb,blk_below h.bd hb,blk_below h.bp hb,by obtain⟨fv,hf⟩:=h.bf;exact⟨fv,blk_below hf hb⟩,h.gfge,h.n7f⟩
theorem memo_ne {X:World} {gM g:Nat} {f:Int→Int→Int} {cs:Array Value} {t:TypeId} (h:Memo X gM f) (hb:X.heap[g]? =some (.cells cs t (0,0))):g≠gM:=by
 rintro rfl
 obtain⟨n,D,⟨es,ck,h,_⟩,_⟩:=h
 rw [h]at hb;cases hb
theorem PutS.turnM {w0 X Y:World} {x:SA} {l:SL} {gW gM:Nat} {A7:Option Addr} {c7 gw gf gd gp:Nat} {day:Int} (h:PutS w0 X x l gW gM A7 c7 gw gf gd gp day) (ht:Turn (fun k=>k=gM) X Y) (hm:l.Days Y gM):PutS w0 Y x l gW gM A7 c7 gw gf gd gp day:=
 ⟨h.job.turn ht,hm,ht.blk h.bw (memo_ne h.memo h.bw),ht.blk h.bd (memo_ne h.memo h.bd),ht.blk h.bp (memo_ne h.memo h.bp),by obtain⟨fv,hf⟩:=h.bf;exact⟨fv,ht.blk hf (memo_ne h.memo hf)⟩,h.gfge,h.n7f⟩
theorem Job.turnO {w0 X Y:World} {x:SA} {l:SL} {gW gM:Nat} {A7:Option Addr} {c7:Nat} {Own:Nat→Prop} (h:Job w0 X x l gW gM A7 c7) (ht:Turn Own X Y) (ho:∀k,Own k→w0.heap.size≤k) (nW:¬Own gW) (n7:∀a,A7=some a→¬Own a.block):Job w0 Y x l gW gM A7 c7:=by
 have hb:Below w0.heap.size w0 Y:=Turn.below h.bel ht ho h.bel.size
 refine⟨hb,h.rd0,⟨ht.blk h.work.bW nW,?_,h.work.h7,h.rd0.below hb⟩,h.gWge,h.gMge,h.neW,h.ne7⟩
 by_cases hn:0 < l.truths.length
 ·obtain⟨a,e,hj⟩:=h.work.tr.2.2 hn
  refine C_block (fun _ _ _ _ h=>h) h.work.tr (fun b e'=> ?_)
  obtain rfl:a=b:=by rw [e]at e';exact Option.some.inj e'
  obtain⟨c,hl,hK,hi⟩:=hj 0 _ (List.getElem?_eq_getElem hn)
  have hc:c≠ []:=by intro hc;rw [hc]at hl;cases hl
  obtain⟨u,t,rfl⟩:∃u t,c=u::t:=by cases c with|nil=>exact absurd rfl hc|cons u t=>exact⟨u,t,rfl⟩
  have h0:=World.block_lt_of_cell? _ _ (hi 0 u rfl)
  rw [add_block]at h0
  exact ht.block _ h0 (n7 a e)
 ·refine⟨h.work.tr.1,h.work.tr.2.1,fun hh=>absurd hh hn⟩
theorem PutS.turn2 {w0 X Y:World} {x:SA} {l:SL} {gW gM:Nat} {A7:Option Addr} {c7 gw gf gd gp:Nat} {day:Int} (h:PutS w0 X x l gW gM A7 c7 gw gf gd gp day) (ht:Turn (fun k=>k=gM∨k=gf) X Y) (hm:l.Days Y gM) (hf:∃fv:Option Addr×Nat×Nat,Y.heap[gf]? =some (.cells #[.slice fv.1 fv.2.1 fv.2.2] 25 (0,0))):PutS w0 Y x l gW gM A7 c7 gw gf gd gp day:=by
 obtain⟨fv,hbf⟩:=h.bf
 have o:∀ {g:Nat} {cs:Array Value} {t:TypeId},X.heap[g]? =some (.cells cs t (0,0))→t≠25→¬(g=gM∨g=gf):=fun hb ht' hh=>by
  rcases hh with hh|hh
  ·exact memo_ne h.memo hb hh
  ·exact blk_ne hb hbf ht' hh
 exact⟨h.job.turnO ht (fun k hk=>hk.elim (fun e=>by rw [e];exact h.job.gMge) (fun e=>by rw [e];exact h.gfge)) (o h.job.work.bW (by decide)) (fun a e hh=>hh.elim (h.job.ne7 a e) (h.n7f a e)),
  hm,ht.blk h.bw (o h.bw (by decide)),ht.blk h.bd (o h.bd (by decide)),ht.blk h.bp (o h.bp (by decide)),hf,h.gfge,h.n7f⟩
def PutOut (w0:World) (x:SA) (l:SL) (gW gM:Nat) (A7:Option Addr) (c7:Nat) (gw gf gd gp:Nat) (day:Int) (r:Option (List Int)) (X:World) (e:Ending) (Y:World):Prop:=
 e= .returned (.bool r.isSome)∧PutS w0 Y x l gW gM A7 c7 gw gf gd gp day∧Turn (fun k=>k=gM∨k=gf) X Y∧
  ∀q,r=some q→∃fv,Y.heap[gf]? =some (.cells #[fv] 25 (0,0))∧Kd.R (Kd.int .i64) 3 Y w0.heap.size (okP gM gf) fv q
set_option maxRecDepth 100000 in
set_option maxHeartbeats 6400000 in
theorem put_calls (x:SA) (l:SL) (gW gM:Nat) (A7:Option Addr) (c7:Nat) (gw gf gd gp:Nat) (day:Int) (w0:World) (hf:l.fault=0):
  ∀(k:Nat) (p:List Int) (pv:Value) (w:World),p.length+k=l.l3.length→PutS w0 w x l gW gM A7 c7 gw gf gd gp day→Kd.R (Kd.int .i64) 3 w w0.heap.size (okP gM gf) pv p→
   Calls Try.prog 132 #[pv,.pointer (some ⟨gw,0,none⟩),.pointer (some ⟨gf,0,none⟩),.pointer (some ⟨gd,0,none⟩),.pointer (some ⟨gp,0,none⟩)] w (PutOut w0 x l gW gM A7 c7 gw gf gd gp day (l.search day k p) w):=by
 obtain⟨A1,c1,A2,c2,A3,c3,A4,c4,A5,c5⟩:=x
 intro k
 induction k with
 |zero=>
  intro p pv w hk hS hR
  have HS:=Aside0.mk hS
  have HR:=Aside0.mk hR
  have HF:=Aside0.mk hf
  obtain⟨Ap,cp,hpv,hlp,hC⟩:=Kd.R_reads hR
  obtain⟨fv0,hfv⟩:=hS.bf
  have BF:=Aside0.mk hfv
  have hlen:p.length=l.l3.length:=by omega
  have hlb:((p.length:Int)==(l.l3.length:Int))=true:=by rw [hlen];simp
  have HLE:=Aside0.mk hlen
  subst hpv
  clear hS hR hlp hC hfv hk hlen
  have fw:w.cell? ⟨gw,0,none⟩=some (.pointer (some ⟨gW,0,none⟩)):=(blk_cell HS.out.bw 0).trans rfl
  have f3:w.cell? ⟨gW,3,none⟩=some (.slice A3 l.l3.length c3):=(blk_cell HS.out.job.work.bW 3).trans rfl
  have ff:w.cell? ⟨gf,0,none⟩=some (.slice fv0.1 fv0.2.1 fv0.2.2):=(blk_cell BF.out 0).trans rfl
  have fz:=blk_frozen BF.out 0
  go_enter Try.func132,Try.ntmps132
  go_wp2
  go_step3
  go_wp2
  rw [Exit.noGoto_ret]
  go_ret
  have ht:Turn (fun k=>k=gM∨k=gf) w (w.setCell ⟨gf,0,none⟩ (.slice Ap p.length cp)):=Turn.set (a:=⟨gf,0,none⟩) (.inr rfl) _
  have hmf:gM≠gf:=fun e=>memo_ne HS.out.memo BF.out e.symm
  refine⟨rfl,HS.out.turn2 ht (HS.out.memo.keep (Below.heap_setCell w _ _ gM hmf)) ⟨(Ap,p.length,cp),blk_set BF.out 0 _⟩,ht,fun q hq=> ?_⟩
  obtain rfl:p=q:=Option.some.inj hq
  exact⟨_,blk_set BF.out 0 _,Kd.R_far HR.out (fun k hk=>hk.2) _⟩
 |succ k ih=>
  intro p pv w hk hS hR
  have HS:=Aside0.mk hS
  have HR:=Aside0.mk hR
  have HF:=Aside0.mk hf
  have IH:=Aside0.mk ih
  have hv:=valid_of hf
  have hs3:=hv.shelf3
  have hc5:=hv.cake5
  obtain⟨Ap,cp,hpv,hlp,hC⟩:=Kd.R_reads hR
  have hlb:((p.length:Int)==(l.l3.length:Int))=false:=by rw [beq_eq_false_iff_ne];omega
  have hpl:p.length < l.l3.length:=by omega
  have HK:=Aside0.mk hk
  subst hpv
  clear hS hR hlp hC hk ih hv
  have fw:w.cell? ⟨gw,0,none⟩=some (.pointer (some ⟨gW,0,none⟩)):=(blk_cell HS.out.bw 0).trans rfl
  have f3:w.cell? ⟨gW,3,none⟩=some (.slice A3 l.l3.length c3):=(blk_cell HS.out.job.work.bW 3).trans rfl
  have f2:w.cell? ⟨gW,2,none⟩=some (.slice A2 l.l2.length c2):=(blk_cell HS.out.job.work.bW 2).trans rfl
  obtain⟨F,hF⟩:∃F:Nat→Option (List Int),F=fun (s:Nat)=>if l.fits day p (s:Int)then l.search day k (p++ [(s:Int)])else none:=⟨_,rfl⟩
  have hsr:l.search day (k+1) p=(List.range l.l2.length).findSome? F:=by rw [hF];rfl
  rw [hsr]
  obtain⟨r,hr⟩:∃r,r=(List.range l.l2.length).findSome? F:=⟨_,rfl⟩
  rw [←hr]
  have HFE:=Aside0.mk hF
  have HRE:=Aside0.mk hr
  have HT:=Aside0.mk (Turn.refl (fun k=>k=gM∨k=gf) w)
  clear hF hsr hr
  go_enter Try.func132,Try.ntmps132
  go_wp2
  go_step3
  go_wp2
  go_step3
  go_wp2
  clear fw f3 f2
  go_loopw [28] (fun v28 wr=>∃s:Nat,v28= .int .i64 (s:Int)∧s≤l.l2.length∧Aside0 (((List.range l.l2.length).drop s).findSome? F=r)∧Aside0 (PutS w0 wr ⟨A1,c1,A2,c2,A3,c3,A4,c4,A5,c5⟩ l gW gM A7 c7 gw gf gd gp day)∧Aside0 (Kd.R (Kd.int .i64) 3 wr w0.heap.size (okP gM gf) (.slice Ap p.length cp) p)∧Aside0 (Turn (fun k=>k=gM∨k=gf) w wr)) (fun v28 _=>(l.l2.length-intOf v28).toNat)
  case atStart=>exact⟨0,rfl,Nat.zero_le _,⟨by rw [HRE.out];rfl⟩,HS,HR,HT⟩
  case round=>
   clear HS HR HT
   obtain⟨s,rfl,hs,HE,HS,HR,HT⟩:=hrel
   by_cases hlt:s < l.l2.length
   ·obtain⟨ad2,e2,fb0,fb1⟩:=at_T135 HS.out.job.work.rd.r2 (s:Int) (by omega) (by omega)
    simp only at e2
    subst e2
    simp only [Int.toNat_natCast]at fb0 fb1
    have hsh:=(valid_of HF.out).shelves (s:Int) (by omega) (by omega)
    obtain⟨ro,hro⟩:∃ro,ro=(rd_T135 l.l2 (s:Int)).f0:=⟨_,rfl⟩
    obtain⟨dr,hdr⟩:∃dr,dr=(rd_T135 l.l2 (s:Int)).f1:=⟨_,rfl⟩
    rw [←hro]at fb0 hsh
    rw [←hdr]at fb1
    obtain⟨ro0,ro5,_⟩:=hsh
    have HRO:=Aside0.mk hro
    have hstep:r=(F s).or (((List.range l.l2.length).drop (s+1)).findSome? F):=by
     rw [←HE.out,List.drop_eq_getElem_cons (by simpa using hlt),List.findSome?_cons]
     simp only [List.getElem_range]
     cases F s<;>rfl
    have HST:=Aside0.mk hstep
    have HB:=Aside0.mk HS.out.job.bel
    have hlti:(s:Int) <(l.l2.length:Int):=by omega
    clear hro hdr hstep HE
    go_upto_region 7 with(fail)
    obtain⟨g8,hg_⟩:∃g_,g_=wr.heap.size:=⟨_,rfl⟩
    obtain⟨w8,hw_⟩:∃w_,w_=World.alloc wr (Obj.cells #[.int .i64 ro,.int .i64 dr] 135):=⟨_,rfl⟩
    have hb_:Below wr.heap.size wr w8:=by rw [hw_];exact below_alloc (Below.refl _ _) _
    have BK8:Aside0 (w8.heap[g8]? =some (Obj.cells #[.int .i64 ro,.int .i64 dr] 135)):=⟨by rw [hw_,hg_];exact blk_new _ _⟩
    have g8GE:Aside0 (w0.heap.size≤g8):=⟨by have:=below_size HB.out;rw [hg_];exact this⟩
    replace HS:=Aside0.mk (HS.out.below hb_)
    replace HR:=Aside0.mk (Kd.R_below HR.out hb_)
    replace HT:=Aside0.mk (HT.out.trans (Turn.of_below hb_))
    replace HB:=Aside0.mk (below_step HB.out hb_)
    rw [←hw_,←hg_]
    clear hw_ hg_ hb_
    clear fb0 fb1
    go_wp2_with fail
    have f80:w8.cell? ⟨g8,0,none⟩=some (.int .i64 ro):=(blk_cell BK8.out 0).trans rfl
    go_loop [9,35] (fun v9 v35=>∃j:Nat,v9= .int .i64 (cnt p (j:Int) (s:Int))∧v35= .int .i64 (j:Int)∧j≤p.length∧Aside0 (∀i:Nat,1≤i→i≤j→cnt p (i:Int) (s:Int)≠ro)) (fun _ v35=>(p.length-intOf v35).toNat)
    case atStart=>exact⟨0,by rw [show((0:Nat):Int)=0 from rfl,cnt_zero],rfl,Nat.zero_le _,⟨fun i h1 h2=>by omega⟩⟩
    case round=>
     obtain⟨j,rfl,rfl,hj,HC⟩:=hrel
     by_cases hjl:j < p.length
     ·obtain⟨adp,ep,fp⟩:=rowB (Kd.R_reads' HR.out).2.2 (j:Int) (by omega) (by omega)
      subst ep
      rw [Int.toNat_natCast]at fp
      have hcs:=cnt_step (place:=p) (i:=(j:Int)) (by omega) (by omega) (s:Int)
      have hc0:=cnt_nonneg p (j:Int) (s:Int)
      have hc1:=cnt_le p (j:Int) (s:Int) (by omega)
      have hmo:=cnt_mono p (s:Int) (j+1) p.length (by omega)
      obtain⟨m,hm⟩:∃m,m=cnt p (j:Int) (s:Int):=⟨_,rfl⟩
      obtain⟨pj,hpj⟩:∃pj,pj=rd p (j:Int):=⟨_,rfl⟩
      rw [←hm,←hpj]at hcs
      rw [←hm]at hc0 hc1
      rw [←hpj]at fp
      rw [←hm]
      have HCS:=Aside0.mk hcs
      have HMO:=Aside0.mk hmo
      have HM:=Aside0.mk hm
      clear hcs hmo hm hpj
      have hjli:(j:Int) <(p.length:Int):=by omega
      have hwm:IntKind.i64.wrap (m+1)=m+1:=IntWalk.i64_in _ (by omega)
      have hws:IntKind.i64.wrap ((s:Int)+1)=(s:Int)+1:=IntWalk.i64_in _ (by omega)
      have hwj:IntKind.i64.wrap ((j:Int)+1)=(j:Int)+1:=IntWalk.i64_in _ (by omega)
      by_cases hps:pj=(s:Int)
      ·have hpsb:(pj==(s:Int))=true:=by rw [beq_iff_eq];exact hps
       have HC1:=Aside0.mk (show cnt p ((j:Int)+1) (s:Int)=m+1 by rw [HCS.out,if_pos hps])
       clear hps
       by_cases hmr:m+1=ro
       ·have hmrb:(m+1==ro)=true:=by rw [beq_iff_eq];exact hmr
        have HMR:=Aside0.mk hmr
        clear hmr
        go_wp2
        have hFn:F s=none:=by
         rw [HFE.out]
         refine if_neg ?_
         unfold SL.fits
         rw [←HRO.out,decide_eq_true_eq]
         rintro⟨_,h2,_⟩
         have h3:=HMO.out
         have h4:=HC1.out
         have h5:=HMR.out
         rw [show((j+1:Nat):Int)=(j:Int)+1 by omega,h4]at h3
         omega
        exact⟨⟨s+1,by simp,by omega,⟨by rw [HST.out,hFn];rfl⟩,HS,HR,HT⟩,by simp [intOf];omega⟩
       ·have hmrb:(m+1==ro)=false:=by rw [beq_eq_false_iff_ne];exact hmr
        have HMR:=Aside0.mk hmr
        clear hmr
        go_wp2
        have hcast:((j+1:Nat):Int)=(j:Int)+1:=by omega
        refine⟨⟨j+1,by rw [hcast,HC1.out],by rw [hcast],by omega,⟨fun i h1 h2=> ?_⟩⟩,by simp [intOf];omega⟩
        by_cases hij:i≤j
        ·exact HC.out i h1 hij
        ·obtain rfl:i=j+1:=by omega
         rw [hcast,HC1.out];exact HMR.out
      ·have hpsb:(pj==(s:Int))=false:=by rw [beq_eq_false_iff_ne];exact hps
       have HC1:=Aside0.mk (show cnt p ((j:Int)+1) (s:Int)=m by rw [HCS.out,if_neg hps];omega)
       clear hps
       by_cases hmr:m=ro
       ·have hmrb:(m==ro)=true:=by rw [beq_iff_eq];exact hmr
        have HMR:=Aside0.mk hmr
        clear hmr
        go_wp2
        have hFn:F s=none:=by
         rw [HFE.out]
         refine if_neg ?_
         unfold SL.fits
         rw [←HRO.out,decide_eq_true_eq]
         rintro⟨_,h2,_⟩
         have h3:=HMO.out
         have h4:=HC1.out
         have h5:=HMR.out
         rw [show((j+1:Nat):Int)=(j:Int)+1 by omega,h4]at h3
         omega
        exact⟨⟨s+1,by simp,by omega,⟨by rw [HST.out,hFn];rfl⟩,HS,HR,HT⟩,by simp [intOf];omega⟩
       ·have hmrb:(m==ro)=false:=by rw [beq_eq_false_iff_ne];exact hmr
        have HMR:=Aside0.mk hmr
        clear hmr
        go_wp2
        have hcast:((j+1:Nat):Int)=(j:Int)+1:=by omega
        refine⟨⟨j+1,by rw [hcast,HC1.out],by rw [hcast],by omega,⟨fun i h1 h2=> ?_⟩⟩,by simp [intOf];omega⟩
        by_cases hij:i≤j
        ·exact HC.out i h1 hij
        ·obtain rfl:i=j+1:=by omega
         rw [hcast,HC1.out];exact HMR.out
     ·have hje:j=p.length:=by omega
      subst hje
      have hjli:(p.length:Int)≤(p.length:Int):=Int.le_refl _
      have hws:IntKind.i64.wrap ((s:Int)+1)=(s:Int)+1:=IntWalk.i64_in _ (by omega)
      go_wp2_with fail
      replace BK8:=Aside0.mk (blk_drew BK8.out)
      by_cases hro:0 < ro
      ·have hrob:decide (0 < ro)=true:=decide_eq_true hro
       have hun:=cnt_under hro p.length (Nat.le_refl _) HC.out
       have HUN:=Aside0.mk hun
       have HSPOT:=Aside0.mk (⟨by omega,by omega,by omega,by omega⟩:Spot l (p.length:Int) (s:Int))
       obtain⟨gd_,hgd⟩:∃g,g=l.good (p.length:Int) (s:Int):=⟨_,rfl⟩
       have HGD:=Aside0.mk hgd
       have HRP:=Aside0.mk hro
       have hbd_:=below_drew1 (Below.refl w8.heap.size w8)
       replace HS:=Aside0.mk (HS.out.below hbd_)
       replace HR:=Aside0.mk (Kd.R_below HR.out hbd_)
       replace HT:=Aside0.mk (HT.out.trans (Turn.of_below hbd_))
       clear hro hun hgd hbd_ f80
       by_cases hle:gd_≤day
       ·have hleb:decide (gd_≤day)=true:=decide_eq_true hle
        obtain⟨r2,hr2⟩:∃r2,r2=l.search day k (p++ [(s:Int)]):=⟨_,rfl⟩
        have HR2:=Aside0.mk hr2
        have hFs:F s=r2:=by
         rw [HFE.out,hr2]
         refine if_pos ?_
         unfold SL.fits
         rw [←HGD.out,←HRO.out,decide_eq_true_eq]
         exact⟨HRP.out,HUN.out,hle⟩
        have HFS:=Aside0.mk hFs
        clear hle hr2 hFs
        cases r2 with
        |none=>
         refine start_ (n:=22) (S:=fun w'=>w'.cell? ⟨g8,0,none⟩=some (.int .i64 ro)∧w'.cell? ⟨gw,0,none⟩=some (.pointer (some ⟨gW,0,none⟩))∧w'.cell? ⟨gd,0,none⟩=some (.int .i64 day)∧w'.cell? ⟨gp,0,none⟩=some (.func (.func 132) #[] #[.pointer (some ⟨gw,0,none⟩),.pointer (some ⟨gf,0,none⟩),.pointer (some ⟨gd,0,none⟩),.pointer (some ⟨gp,0,none⟩)])) (ds:= []) #[false,false,false,false,false,false,false,false,false,false,false,false,false,false,false,false,false,false,false,false,false,false] (by kernel_rfl) rfl rfl ⟨(blk_cell BK8.out 0).trans rfl,(blk_cell HS.out.bw 0).trans rfl,(blk_cell HS.out.bd 0).trans rfl,(blk_cell HS.out.bp 0).trans rfl⟩ (fun hHeld=> ?_)
         generalize w8.drew=wd at BK8 HS HR HT hHeld ⊢
         refine pure_ (i:=0) (N:=some 49) (v:= ?_) (a':= ?_) #[true,false,false,false,false,false,false,false,false,false,false,false,false,false,false,false,false,false,false,false,false,false] rfl rfl (by kernel_rfl) (fun _ _ _ h=>h) (Or.inl ⟨by rfl,?_⟩) ?_ ?_
         rotate_left
         ·intro w'
          go_simp
          with_reducible rfl
         rotate_left
         ·simp only [Act.put,List.setIfInBounds_toArray,List.set_cons_zero,List.set_cons_succ];rfl
         refine take_ (i:=1) (N:=some 50) (v:= ?_) (a':= ?_) #[true,true,false,false,false,false,false,false,false,false,false,false,false,false,false,false,false,false,false,false,false,false] rfl rfl (by kernel_rfl) (fun _ _ _ h=>h) (Or.inl ⟨by rfl,?_⟩) hHeld ?_ ?_
         rotate_left
         ·rintro w' ⟨s0,s1,s2,s3⟩
          go_simp
          with_reducible rfl
         rotate_left
         ·simp only [Act.put,List.setIfInBounds_toArray,List.set_cons_zero,List.set_cons_succ];rfl
         refine pure_ (i:=2) (N:=some 51) (v:= ?_) (a':= ?_) #[true,true,true,false,false,false,false,false,false,false,false,false,false,false,false,false,false,false,false,false,false,false] rfl rfl (by kernel_rfl) (fun _ _ _ h=>h) (Or.inl ⟨by rfl,?_⟩) ?_ ?_
         rotate_left
         ·intro w'
          go_simp
          with_reducible rfl
         rotate_left
         ·simp only [Act.put,List.setIfInBounds_toArray,List.set_cons_zero,List.set_cons_succ];rfl
         refine pure_ (i:=3) (N:=some 52) (v:= ?_) (a':= ?_) #[true,true,true,true,false,false,false,false,false,false,false,false,false,false,false,false,false,false,false,false,false,false] rfl rfl (by kernel_rfl) (fun _ _ _ h=>h) (Or.inl ⟨by rfl,?_⟩) ?_ ?_
         rotate_left
         ·intro w'
          go_simp
          with_reducible rfl
         rotate_left
         ·simp only [Act.put,List.setIfInBounds_toArray,List.set_cons_zero,List.set_cons_succ];rfl
         refine take_ (i:=4) (N:=some 53) (v:= ?_) (a':= ?_) #[true,true,true,true,true,false,false,false,false,false,false,false,false,false,false,false,false,false,false,false,false,false] rfl rfl (by kernel_rfl) (fun _ _ _ h=>h) (Or.inl ⟨by rfl,?_⟩) hHeld ?_ ?_
         rotate_left
         ·rintro w' ⟨s0,s1,s2,s3⟩
          go_simp
          with_reducible rfl
         rotate_left
         ·simp only [Act.put,List.setIfInBounds_toArray,List.set_cons_zero,List.set_cons_succ];rfl
         refine pure_ (i:=5) (N:=some 54) (v:= ?_) (a':= ?_) #[true,true,true,true,true,true,false,false,false,false,false,false,false,false,false,false,false,false,false,false,false,false] rfl rfl (by kernel_rfl) (fun _ _ _ h=>h) (Or.inl ⟨by rfl,?_⟩) ?_ ?_
         rotate_left
         ·intro w'
          go_simp
          with_reducible rfl
         rotate_left
         ·simp only [Act.put,List.setIfInBounds_toArray,List.set_cons_zero,List.set_cons_succ];rfl
         refine pure_ (i:=6) (N:=some 55) (v:= ?_) (a':= ?_) #[true,true,true,true,true,true,true,false,false,false,false,false,false,false,false,false,false,false,false,false,false,false] rfl rfl (by kernel_rfl) (fun _ _ _ h=>h) (Or.inl ⟨by rfl,?_⟩) ?_ ?_
         rotate_left
         ·intro w'
          go_simp
          with_reducible rfl
         rotate_left
         ·simp only [Act.put,List.setIfInBounds_toArray,List.set_cons_zero,List.set_cons_succ];rfl
         refine pure_ (i:=7) (N:=some 56) (v:= ?_) (a':= ?_) #[true,true,true,true,true,true,true,true,false,false,false,false,false,false,false,false,false,false,false,false,false,false] rfl rfl (by kernel_rfl) (fun _ _ _ h=>h) (Or.inl ⟨by rfl,?_⟩) ?_ ?_
         rotate_left
         ·intro w'
          go_simp
          with_reducible rfl
         rotate_left
         ·simp only [Act.put,List.setIfInBounds_toArray,List.set_cons_zero,List.set_cons_succ];rfl
         refine pure_ (i:=8) (N:=some 57) (v:= ?_) (a':= ?_) #[true,true,true,true,true,true,true,true,true,false,false,false,false,false,false,false,false,false,false,false,false,false] rfl rfl (by kernel_rfl) (fun _ _ _ h=>h) (Or.inl ⟨by rfl,?_⟩) ?_ ?_
         rotate_left
         ·intro w'
          go_simp
          with_reducible rfl
         rotate_left
         ·simp only [Act.put,List.setIfInBounds_toArray,List.set_cons_zero,List.set_cons_succ];rfl
         refine take_ (i:=10) (N:=some 59) (v:= ?_) (a':= ?_) #[true,true,true,true,true,true,true,true,true,false,true,false,false,false,false,false,false,false,false,false,false,false] rfl rfl (by kernel_rfl) (fun _ _ _ h=>h) (Or.inl ⟨by rfl,?_⟩) hHeld ?_ ?_
         rotate_left
         ·rintro w' ⟨s0,s1,s2,s3⟩
          go_simp
          with_reducible rfl
         rotate_left
         ·simp only [Act.put,List.setIfInBounds_toArray,List.set_cons_zero,List.set_cons_succ];rfl
         refine one_ (i:=9) (N:=some 58) #[true,true,true,true,true,true,true,true,true,true,true,false,false,false,false,false,false,false,false,false,false,false] rfl rfl (by kernel_rfl) (by decide) (fun K hK=> ?_)
         refine goes_ Try.func85 (by kernel_rfl) rfl #[.pointer (some ⟨gW,0,none⟩),.agg #[.int .i64 (p.length:Int),.int .i64 (s:Int)]] (by rfl) rfl rfl (by(try simp only [List.map_toArray,List.map_cons,List.map_nil]);rfl) ?_
         refine(good.calls ⟨A1,c1,some ad2,c2,A3,c3,A4,c4,A5,c5⟩ l gW gM A7 c7 (p.length:Int) (s:Int) w0 wd HS.out.job HS.out.memo HF.out HSPOT.out).mono ?_
         rintro e wl ⟨rfl,hj,hm,ht⟩
         refine⟨_,rfl,?_⟩
         have hne8:=memo_ne HS.out.memo BK8.out
         replace BK8:=Aside0.mk (ht.blk BK8.out hne8)
         replace HS:=Aside0.mk (HS.out.turnM ht hm)
         replace HR:=Aside0.mk (Kd.R_step HR.out (fun k hk hlt=>ht.block k hlt hk.1))
         replace HT:=Aside0.mk (HT.out.trans (ht.mono (fun k hk=> .inl hk)))
         clear hj hm ht hne8
         rw [←HGD.out]
         refine hK.out _ _ ⟨(blk_cell BK8.out 0).trans rfl,(blk_cell HS.out.bw 0).trans rfl,(blk_cell HS.out.bd 0).trans rfl,(blk_cell HS.out.bp 0).trans rfl⟩ (fun hHeld=> ?_)
         clear hK K
         refine norm_ (a':= ?_) ?_ ?_
         rotate_left
         ·show Act.put _ (some 58) _=_;simp only [Act.put,List.setIfInBounds_toArray,List.set_cons_zero,List.set_cons_succ];rfl
         refine pure_ (i:=11) (N:=some 60) (v:= ?_) (a':= ?_) #[true,true,true,true,true,true,true,true,true,true,true,true,false,false,false,false,false,false,false,false,false,false] rfl rfl (by kernel_rfl) (fun _ _ _ h=>h) (Or.inl ⟨by rfl,?_⟩) ?_ ?_
         rotate_left
         ·intro w'
          go_simp
          with_reducible rfl
         rotate_left
         ·simp only [Act.put,List.setIfInBounds_toArray,List.set_cons_zero,List.set_cons_succ];rfl
         refine pure_ (i:=12) (N:=some 61) (v:= ?_) (a':= ?_) #[true,true,true,true,true,true,true,true,true,true,true,true,true,false,false,false,false,false,false,false,false,false] rfl rfl (by kernel_rfl) (fun _ _ _ h=>h) (Or.inl ⟨by rfl,?_⟩) ?_ ?_
         rotate_left
         ·intro w'
          go_simp
          with_reducible rfl
         rotate_left
         ·simp only [Act.put,List.setIfInBounds_toArray,List.set_cons_zero,List.set_cons_succ];rfl
         refine pure_ (i:=13) (N:=some 62) (v:= ?_) (a':= ?_) #[true,true,true,true,true,true,true,true,true,true,true,true,true,true,false,false,false,false,false,false,false,false] rfl rfl (by kernel_rfl) (fun _ _ _ h=>h) (Or.inl ⟨by rfl,?_⟩) ?_ ?_
         rotate_left
         ·intro w'
          go_simp
          with_reducible rfl
         rotate_left
         ·simp only [Act.put,List.setIfInBounds_toArray,List.set_cons_zero,List.set_cons_succ];rfl
         refine take_ (i:=14) (N:=some 63) (v:= ?_) (a':= ?_) #[true,true,true,true,true,true,true,true,true,true,true,true,true,true,true,false,false,false,false,false,false,false] rfl rfl (by kernel_rfl) (fun _ _ _ h=>h) (Or.inl ⟨by rfl,?_⟩) hHeld ?_ ?_
         rotate_left
         ·rintro w' ⟨s0,s1,s2,s3⟩
          go_simp
          with_reducible rfl
         rotate_left
         ·simp only [Act.put,List.setIfInBounds_toArray,List.set_cons_zero,List.set_cons_succ];rfl
         refine pure_ (i:=15) (N:=some 64) (v:= ?_) (a':= ?_) #[true,true,true,true,true,true,true,true,true,true,true,true,true,true,true,true,false,false,false,false,false,false] rfl rfl (by kernel_rfl) (fun _ _ _ h=>h) (Or.inl ⟨by rfl,?_⟩) ?_ ?_
         rotate_left
         ·intro w'
          go_simp
          with_reducible rfl
         rotate_left
         ·simp only [Act.put,List.setIfInBounds_toArray,List.set_cons_zero,List.set_cons_succ];rfl
         refine pure_ (i:=17) (N:=some 66) (v:= ?_) (a':= ?_) #[true,true,true,true,true,true,true,true,true,true,true,true,true,true,true,true,false,true,false,false,false,false] rfl rfl (by kernel_rfl) (fun _ _ _ h=>h) (Or.inl ⟨by rfl,?_⟩) ?_ ?_
         rotate_left
         ·intro w'
          go_simp
          with_reducible rfl
         rotate_left
         ·simp only [Act.put,List.setIfInBounds_toArray,List.set_cons_zero,List.set_cons_succ];rfl
         refine join_ (σ:=Value×Nat) 3 #[true,true,true,true,true,true,true,true,true,true,true,true,true,true,true,true,true,true,true,false,false,false] (fun s_=> [(65,s_.1),(67,.slice (some ⟨s_.2,0,none⟩) 1 1)]) (fun s_ w'=>(w'.cell? ⟨g8,0,none⟩=some (.int .i64 ro)∧w'.cell? ⟨gw,0,none⟩=some (.pointer (some ⟨gW,0,none⟩))∧w'.cell? ⟨gd,0,none⟩=some (.int .i64 day)∧w'.cell? ⟨gp,0,none⟩=some (.func (.func 132) #[] #[.pointer (some ⟨gw,0,none⟩),.pointer (some ⟨gf,0,none⟩),.pointer (some ⟨gd,0,none⟩),.pointer (some ⟨gp,0,none⟩)]))∧Kd.R (Kd.int .i64) 3 w' wl.heap.size (fun _=>True) s_.1 p∧w'.heap[s_.2]? =some (.cells #[.int .i64 (s:Int)] 3 (0,0))∧Below wl.heap.size wl w') ?_ ?_
         rotate_left
         ·intro hCont
          refine two_ (i:=16) (j:=18) (Ni:=some 65) (Nj:=some 67) #[true,true,true,true,true,true,true,true,true,true,true,true,true,true,true,true,true,true,false,false,false,false] #[true,true,true,true,true,true,true,true,true,true,true,true,true,true,true,true,false,true,true,false,false,false] rfl rfl rfl rfl (by kernel_rfl) (by decide) (by decide) (fun K hK=> ?_) (fun K hK=> ?_)
          ·refine goes_ Try.func88 (by kernel_rfl) rfl #[.slice Ap p.length cp] (by rfl) rfl rfl (by(try simp only [List.map_toArray,List.map_cons,List.map_nil]);rfl) ?_
           refine(slices_Clone_int.calls Ap cp p p wl (Kd.R_reads' HR.out).2.2 (Kd.R_reads' HR.out).2.1 (by unfold slices_Clone_int.f;rw [if_pos (by omega)])).mono ?_
           rintro e wc ⟨v0,rfl,ho,hbc⟩
           refine⟨_,rfl,?_⟩
           have HO:=Aside0.mk ho
           have HBC:=Aside0.mk hbc
           have HSc:=Aside0.mk (HS.out.below hbc)
           have BK8c:=Aside0.mk (blk_below BK8.out hbc)
           clear ho hbc
           refine hK.out _ _ ⟨(blk_cell BK8c.out 0).trans rfl,(blk_cell HSc.out.bw 0).trans rfl,(blk_cell HSc.out.bd 0).trans rfl,(blk_cell HSc.out.bp 0).trans rfl⟩ (fun hHeld=> ?_)
           clear hK K
           refine norm_ (a':= ?_) ?_ ?_
           rotate_left
           ·show Act.put _ (some 65) _=_;simp only [Act.put,List.setIfInBounds_toArray,List.set_cons_zero,List.set_cons_succ];rfl
           refine one_ (i:=18) (N:=some 67) #[true,true,true,true,true,true,true,true,true,true,true,true,true,true,true,true,true,true,true,false,false,false] rfl rfl (by kernel_rfl) (by decide) (fun K hK=> ?_)
           refine value_ (w1:= ?_) (v:= ?_) (by rfl) rfl ?_ ?_
           rotate_left 2
           ·go_simp
            constructor
            ·rfl
            ·rfl
           refine hK.out _ _ ⟨(blk_cell (blk_alloc BK8c.out _) 0).trans rfl,(blk_cell (blk_alloc HSc.out.bw _) 0).trans rfl,(blk_cell (blk_alloc HSc.out.bd _) 0).trans rfl,(blk_cell (blk_alloc HSc.out.bp _) 0).trans rfl⟩ (fun hHeld=> ?_)
           clear hK K
           exact norm_ (by simp only [putAll,Act.put,List.setIfInBounds_toArray,List.set_cons_zero,List.set_cons_succ]) (hCont (v0,wc.heap.size) _ ⟨hHeld,Kd.R_below HO.out (below_alloc (Below.refl _ _) _),blk_new _ _,below_alloc HBC.out _⟩)
          ·refine value_ (w1:= ?_) (v:= ?_) (by rfl) rfl ?_ ?_
           rotate_left 2
           ·go_simp
            constructor
            ·rfl
            ·rfl
           have hba:=below_alloc (Below.refl wl.heap.size wl) (Obj.cells #[.int .i64 (s:Int)] 3 (0,0))
           have HSa:=Aside0.mk (HS.out.below hba)
           have BK8a:=Aside0.mk (blk_below BK8.out hba)
           have HRa:=Aside0.mk (Kd.R_below HR.out hba)
           refine hK.out _ _ ⟨(blk_cell BK8a.out 0).trans rfl,(blk_cell HSa.out.bw 0).trans rfl,(blk_cell HSa.out.bd 0).trans rfl,(blk_cell HSa.out.bp 0).trans rfl⟩ (fun hHeld=> ?_)
           clear hK K
           refine norm_ (a':= ?_) ?_ ?_
           rotate_left
           ·show Act.put _ (some 67) _=_;simp only [Act.put,List.setIfInBounds_toArray,List.set_cons_zero,List.set_cons_succ];rfl
           refine one_ (i:=16) (N:=some 65) #[true,true,true,true,true,true,true,true,true,true,true,true,true,true,true,true,true,true,true,false,false,false] rfl rfl (by kernel_rfl) (by decide) (fun K hK=> ?_)
           refine goes_ Try.func88 (by kernel_rfl) rfl #[.slice Ap p.length cp] (by rfl) rfl rfl (by(try simp only [List.map_toArray,List.map_cons,List.map_nil]);rfl) ?_
           refine(slices_Clone_int.calls Ap cp p p _ (Kd.R_reads' HRa.out).2.2 (Kd.R_reads' HRa.out).2.1 (by unfold slices_Clone_int.f;rw [if_pos (by omega)])).mono ?_
           rintro e wc ⟨v0,rfl,ho,hbc⟩
           refine⟨_,rfl,?_⟩
           have HSc:=Aside0.mk (HSa.out.below hbc)
           have BK8c:=Aside0.mk (blk_below BK8a.out hbc)
           refine hK.out _ _ ⟨(blk_cell BK8c.out 0).trans rfl,(blk_cell HSc.out.bw 0).trans rfl,(blk_cell HSc.out.bd 0).trans rfl,(blk_cell HSc.out.bp 0).trans rfl⟩ (fun hHeld=> ?_)
           clear hK K
           exact norm_ (by simp only [putAll,Act.put,List.setIfInBounds_toArray,List.set_cons_zero,List.set_cons_succ]) (hCont (v0,wl.heap.size) _ ⟨hHeld,Kd.R_lower ho hba.size,blk_below (blk_new _ _) hbc,below_step hba hbc⟩)
         rintro⟨v0,gl⟩ wj ⟨hHeld,ho,hgl,hbj⟩
         refine norm_ (a':= ?_) ?_ ?_
         rotate_left
         ·simp only [putAll,Act.put,List.setIfInBounds_toArray,List.set_cons_zero,List.set_cons_succ]
          rfl
         refine one_ (i:=19) (N:=some 68) #[true,true,true,true,true,true,true,true,true,true,true,true,true,true,true,true,true,true,true,true,false,false] rfl rfl (by kernel_rfl) (by decide) (fun K hK=> ?_)
         refine Kd.R_append_rows_step (Kd.int .i64) (Rr:=(Kd.int .i64).K wj) (w0:=wl) wl.heap.size (by rfl) (.tmp 65) (.tmp 67) 25 3 (.int .i64 0) 8 rfl Try.underlying25 info3 rfl (by decide) (by omega) v0 p [(s:Int)] (some ⟨gl,0,none⟩) 1 1 (fun _=>True) (fun _=>False) rfl rfl ho (lit_row hgl) (fun x cs h=>h) (fun _ hk=>hk.elim) (fun _ _=>trivial) hbj hbj.size ?aL ?_
         (case aL=>omega)
         intro v9 w9 ho9 hb9 hg9 hat9
         have hrow:Kd.R (Kd.int .i64) 3 w9 w0.heap.size (okP gM gf) v9 (p++ [(s:Int)]):=by
          refine Kd.R_lower (Kd.R_mono (Kd.R_bound ho9) (fun k hk=> ?_)) HS.out.job.bel.size
          have h1:=HS.out.memo.lt
          obtain⟨fv1,hbf⟩:=HS.out.bf
          have h2:=blk_lt hbf
          exact⟨by omega,by omega⟩
         have HS9:=Aside0.mk (HS.out.below hb9)
         have BK89:=Aside0.mk (blk_below BK8.out hb9)
         have HR9:=Aside0.mk (Kd.R_below HR.out hb9)
         have HT9:=Aside0.mk (HT.out.trans (Turn.of_below hb9))
         have HROW:=Aside0.mk hrow
         clear ho9 hb9 hg9 hat9 hrow
         refine hK.out _ _ ⟨(blk_cell BK89.out 0).trans rfl,(blk_cell HS9.out.bw 0).trans rfl,(blk_cell HS9.out.bd 0).trans rfl,(blk_cell HS9.out.bp 0).trans rfl⟩ (fun hHeld=> ?_)
         clear hK K
         refine norm_ (a':= ?_) ?_ ?_
         rotate_left
         ·show Act.put _ (some 68) _=_;simp only [Act.put,List.setIfInBounds_toArray,List.set_cons_zero,List.set_cons_succ];rfl
         refine one_ (i:=20) (N:=some 69) #[true,true,true,true,true,true,true,true,true,true,true,true,true,true,true,true,true,true,true,true,true,false] rfl rfl (by kernel_rfl) (by decide) (fun K hK=> ?_)
         refine call_ 132 #[v9,.pointer (some ⟨gw,0,none⟩),.pointer (some ⟨gf,0,none⟩),.pointer (some ⟨gd,0,none⟩),.pointer (some ⟨gp,0,none⟩)] (by rfl) rfl (by have h_:=enters_ Try.func132 (by kernel_rfl) rfl #[v9,.pointer (some ⟨gw,0,none⟩),.pointer (some ⟨gf,0,none⟩),.pointer (some ⟨gd,0,none⟩),.pointer (some ⟨gp,0,none⟩)] w9;unfold execOp;simp [resolve,Deferred.ofValue,invoke,Act.eval,h_]) ?_
         refine(IH.out (p++ [(s:Int)]) v9 w9 (by rw [List.length_append,List.length_singleton];have:=HK.out;omega) HS9.out HROW.out).mono ?_
         rw [←HR2.out]
         rintro e wp ⟨rfl,hsp,htp,hqp⟩
         refine⟨_,rfl,?_⟩
         have hn8:¬(g8=gM∨g8=gf):=fun hh=>hh.elim (memo_ne HS9.out.memo BK89.out) (fun e=>by obtain⟨fv1,hbf⟩:=HS9.out.bf;exact blk_ne BK89.out hbf (by decide) e)
         have BK8p:=Aside0.mk (htp.blk BK89.out hn8)
         have HSP:=Aside0.mk hsp
         have HRP2:=Aside0.mk (Kd.R_step HR9.out (fun k hk hlt=>htp.block k hlt (fun hh=>hh.elim hk.1 hk.2)))
         have HTP:=Aside0.mk (HT9.out.trans htp)
         have HQP:=Aside0.mk hqp
         clear hn8 hsp htp hqp
         refine hK.out _ _ ⟨(blk_cell BK8p.out 0).trans rfl,(blk_cell HSP.out.bw 0).trans rfl,(blk_cell HSP.out.bd 0).trans rfl,(blk_cell HSP.out.bp 0).trans rfl⟩ (fun hHeld=> ?_)
         clear hK K
         refine norm_ (a':= ?_) ?_ ?_
         rotate_left
         ·show Act.put _ (some 69) _=_;simp only [Act.put,List.setIfInBounds_toArray,List.set_cons_zero,List.set_cons_succ];rfl
         refine pure_ (i:=21) (N:=some 70) (v:= ?_) (a':= ?_) #[true,true,true,true,true,true,true,true,true,true,true,true,true,true,true,true,true,true,true,true,true,true] rfl rfl (by kernel_rfl) (fun _ _ _ h=>h) (Or.inl ⟨by rfl,?_⟩) ?_ ?_
         rotate_left
         ·intro w'
          go_simp
          with_reducible rfl
         rotate_left
         ·simp only [Act.put,List.setIfInBounds_toArray,List.set_cons_zero,List.set_cons_succ];rfl
         refine done_ (by kernel_rfl) ?_
         go_wp2
         exact⟨⟨s+1,by simp,by omega,⟨by rw [HST.out,HFS.out];rfl⟩,HSP,HRP2,HTP⟩,by simp [intOf];omega⟩
        |some q=>
         refine start_ (n:=22) (S:=fun w'=>w'.cell? ⟨g8,0,none⟩=some (.int .i64 ro)∧w'.cell? ⟨gw,0,none⟩=some (.pointer (some ⟨gW,0,none⟩))∧w'.cell? ⟨gd,0,none⟩=some (.int .i64 day)∧w'.cell? ⟨gp,0,none⟩=some (.func (.func 132) #[] #[.pointer (some ⟨gw,0,none⟩),.pointer (some ⟨gf,0,none⟩),.pointer (some ⟨gd,0,none⟩),.pointer (some ⟨gp,0,none⟩)])) (ds:= []) #[false,false,false,false,false,false,false,false,false,false,false,false,false,false,false,false,false,false,false,false,false,false] (by kernel_rfl) rfl rfl ⟨(blk_cell BK8.out 0).trans rfl,(blk_cell HS.out.bw 0).trans rfl,(blk_cell HS.out.bd 0).trans rfl,(blk_cell HS.out.bp 0).trans rfl⟩ (fun hHeld=> ?_)
         generalize w8.drew=wd at BK8 HS HR HT hHeld ⊢
         refine pure_ (i:=0) (N:=some 49) (v:= ?_) (a':= ?_) #[true,false,false,false,false,false,false,false,false,false,false,false,false,false,false,false,false,false,false,false,false,false] rfl rfl (by kernel_rfl) (fun _ _ _ h=>h) (Or.inl ⟨by rfl,?_⟩) ?_ ?_
         rotate_left
         ·intro w'
          go_simp
          with_reducible rfl
         rotate_left
         ·simp only [Act.put,List.setIfInBounds_toArray,List.set_cons_zero,List.set_cons_succ];rfl
         refine take_ (i:=1) (N:=some 50) (v:= ?_) (a':= ?_) #[true,true,false,false,false,false,false,false,false,false,false,false,false,false,false,false,false,false,false,false,false,false] rfl rfl (by kernel_rfl) (fun _ _ _ h=>h) (Or.inl ⟨by rfl,?_⟩) hHeld ?_ ?_
         rotate_left
         ·rintro w' ⟨s0,s1,s2,s3⟩
          go_simp
          with_reducible rfl
         rotate_left
         ·simp only [Act.put,List.setIfInBounds_toArray,List.set_cons_zero,List.set_cons_succ];rfl
         refine pure_ (i:=2) (N:=some 51) (v:= ?_) (a':= ?_) #[true,true,true,false,false,false,false,false,false,false,false,false,false,false,false,false,false,false,false,false,false,false] rfl rfl (by kernel_rfl) (fun _ _ _ h=>h) (Or.inl ⟨by rfl,?_⟩) ?_ ?_
         rotate_left
         ·intro w'
          go_simp
          with_reducible rfl
         rotate_left
         ·simp only [Act.put,List.setIfInBounds_toArray,List.set_cons_zero,List.set_cons_succ];rfl
         refine pure_ (i:=3) (N:=some 52) (v:= ?_) (a':= ?_) #[true,true,true,true,false,false,false,false,false,false,false,false,false,false,false,false,false,false,false,false,false,false] rfl rfl (by kernel_rfl) (fun _ _ _ h=>h) (Or.inl ⟨by rfl,?_⟩) ?_ ?_
         rotate_left
         ·intro w'
          go_simp
          with_reducible rfl
         rotate_left
         ·simp only [Act.put,List.setIfInBounds_toArray,List.set_cons_zero,List.set_cons_succ];rfl
         refine take_ (i:=4) (N:=some 53) (v:= ?_) (a':= ?_) #[true,true,true,true,true,false,false,false,false,false,false,false,false,false,false,false,false,false,false,false,false,false] rfl rfl (by kernel_rfl) (fun _ _ _ h=>h) (Or.inl ⟨by rfl,?_⟩) hHeld ?_ ?_
         rotate_left
         ·rintro w' ⟨s0,s1,s2,s3⟩
          go_simp
          with_reducible rfl
         rotate_left
         ·simp only [Act.put,List.setIfInBounds_toArray,List.set_cons_zero,List.set_cons_succ];rfl
         refine pure_ (i:=5) (N:=some 54) (v:= ?_) (a':= ?_) #[true,true,true,true,true,true,false,false,false,false,false,false,false,false,false,false,false,false,false,false,false,false] rfl rfl (by kernel_rfl) (fun _ _ _ h=>h) (Or.inl ⟨by rfl,?_⟩) ?_ ?_
         rotate_left
         ·intro w'
          go_simp
          with_reducible rfl
         rotate_left
         ·simp only [Act.put,List.setIfInBounds_toArray,List.set_cons_zero,List.set_cons_succ];rfl
         refine pure_ (i:=6) (N:=some 55) (v:= ?_) (a':= ?_) #[true,true,true,true,true,true,true,false,false,false,false,false,false,false,false,false,false,false,false,false,false,false] rfl rfl (by kernel_rfl) (fun _ _ _ h=>h) (Or.inl ⟨by rfl,?_⟩) ?_ ?_
         rotate_left
         ·intro w'
          go_simp
          with_reducible rfl
         rotate_left
         ·simp only [Act.put,List.setIfInBounds_toArray,List.set_cons_zero,List.set_cons_succ];rfl
         refine pure_ (i:=7) (N:=some 56) (v:= ?_) (a':= ?_) #[true,true,true,true,true,true,true,true,false,false,false,false,false,false,false,false,false,false,false,false,false,false] rfl rfl (by kernel_rfl) (fun _ _ _ h=>h) (Or.inl ⟨by rfl,?_⟩) ?_ ?_
         rotate_left
         ·intro w'
          go_simp
          with_reducible rfl
         rotate_left
         ·simp only [Act.put,List.setIfInBounds_toArray,List.set_cons_zero,List.set_cons_succ];rfl
         refine pure_ (i:=8) (N:=some 57) (v:= ?_) (a':= ?_) #[true,true,true,true,true,true,true,true,true,false,false,false,false,false,false,false,false,false,false,false,false,false] rfl rfl (by kernel_rfl) (fun _ _ _ h=>h) (Or.inl ⟨by rfl,?_⟩) ?_ ?_
         rotate_left
         ·intro w'
          go_simp
          with_reducible rfl
         rotate_left
         ·simp only [Act.put,List.setIfInBounds_toArray,List.set_cons_zero,List.set_cons_succ];rfl
         refine take_ (i:=10) (N:=some 59) (v:= ?_) (a':= ?_) #[true,true,true,true,true,true,true,true,true,false,true,false,false,false,false,false,false,false,false,false,false,false] rfl rfl (by kernel_rfl) (fun _ _ _ h=>h) (Or.inl ⟨by rfl,?_⟩) hHeld ?_ ?_
         rotate_left
         ·rintro w' ⟨s0,s1,s2,s3⟩
          go_simp
          with_reducible rfl
         rotate_left
         ·simp only [Act.put,List.setIfInBounds_toArray,List.set_cons_zero,List.set_cons_succ];rfl
         refine one_ (i:=9) (N:=some 58) #[true,true,true,true,true,true,true,true,true,true,true,false,false,false,false,false,false,false,false,false,false,false] rfl rfl (by kernel_rfl) (by decide) (fun K hK=> ?_)
         refine goes_ Try.func85 (by kernel_rfl) rfl #[.pointer (some ⟨gW,0,none⟩),.agg #[.int .i64 (p.length:Int),.int .i64 (s:Int)]] (by rfl) rfl rfl (by(try simp only [List.map_toArray,List.map_cons,List.map_nil]);rfl) ?_
         refine(good.calls ⟨A1,c1,some ad2,c2,A3,c3,A4,c4,A5,c5⟩ l gW gM A7 c7 (p.length:Int) (s:Int) w0 wd HS.out.job HS.out.memo HF.out HSPOT.out).mono ?_
         rintro e wl ⟨rfl,hj,hm,ht⟩
         refine⟨_,rfl,?_⟩
         have hne8:=memo_ne HS.out.memo BK8.out
         replace BK8:=Aside0.mk (ht.blk BK8.out hne8)
         replace HS:=Aside0.mk (HS.out.turnM ht hm)
         replace HR:=Aside0.mk (Kd.R_step HR.out (fun k hk hlt=>ht.block k hlt hk.1))
         replace HT:=Aside0.mk (HT.out.trans (ht.mono (fun k hk=> .inl hk)))
         clear hj hm ht hne8
         rw [←HGD.out]
         refine hK.out _ _ ⟨(blk_cell BK8.out 0).trans rfl,(blk_cell HS.out.bw 0).trans rfl,(blk_cell HS.out.bd 0).trans rfl,(blk_cell HS.out.bp 0).trans rfl⟩ (fun hHeld=> ?_)
         clear hK K
         refine norm_ (a':= ?_) ?_ ?_
         rotate_left
         ·show Act.put _ (some 58) _=_;simp only [Act.put,List.setIfInBounds_toArray,List.set_cons_zero,List.set_cons_succ];rfl
         refine pure_ (i:=11) (N:=some 60) (v:= ?_) (a':= ?_) #[true,true,true,true,true,true,true,true,true,true,true,true,false,false,false,false,false,false,false,false,false,false] rfl rfl (by kernel_rfl) (fun _ _ _ h=>h) (Or.inl ⟨by rfl,?_⟩) ?_ ?_
         rotate_left
         ·intro w'
          go_simp
          with_reducible rfl
         rotate_left
         ·simp only [Act.put,List.setIfInBounds_toArray,List.set_cons_zero,List.set_cons_succ];rfl
         refine pure_ (i:=12) (N:=some 61) (v:= ?_) (a':= ?_) #[true,true,true,true,true,true,true,true,true,true,true,true,true,false,false,false,false,false,false,false,false,false] rfl rfl (by kernel_rfl) (fun _ _ _ h=>h) (Or.inl ⟨by rfl,?_⟩) ?_ ?_
         rotate_left
         ·intro w'
          go_simp
          with_reducible rfl
         rotate_left
         ·simp only [Act.put,List.setIfInBounds_toArray,List.set_cons_zero,List.set_cons_succ];rfl
         refine pure_ (i:=13) (N:=some 62) (v:= ?_) (a':= ?_) #[true,true,true,true,true,true,true,true,true,true,true,true,true,true,false,false,false,false,false,false,false,false] rfl rfl (by kernel_rfl) (fun _ _ _ h=>h) (Or.inl ⟨by rfl,?_⟩) ?_ ?_
         rotate_left
         ·intro w'
          go_simp
          with_reducible rfl
         rotate_left
         ·simp only [Act.put,List.setIfInBounds_toArray,List.set_cons_zero,List.set_cons_succ];rfl
         refine take_ (i:=14) (N:=some 63) (v:= ?_) (a':= ?_) #[true,true,true,true,true,true,true,true,true,true,true,true,true,true,true,false,false,false,false,false,false,false] rfl rfl (by kernel_rfl) (fun _ _ _ h=>h) (Or.inl ⟨by rfl,?_⟩) hHeld ?_ ?_
         rotate_left
         ·rintro w' ⟨s0,s1,s2,s3⟩
          go_simp
          with_reducible rfl
         rotate_left
         ·simp only [Act.put,List.setIfInBounds_toArray,List.set_cons_zero,List.set_cons_succ];rfl
         refine pure_ (i:=15) (N:=some 64) (v:= ?_) (a':= ?_) #[true,true,true,true,true,true,true,true,true,true,true,true,true,true,true,true,false,false,false,false,false,false] rfl rfl (by kernel_rfl) (fun _ _ _ h=>h) (Or.inl ⟨by rfl,?_⟩) ?_ ?_
         rotate_left
         ·intro w'
          go_simp
          with_reducible rfl
         rotate_left
         ·simp only [Act.put,List.setIfInBounds_toArray,List.set_cons_zero,List.set_cons_succ];rfl
         refine pure_ (i:=17) (N:=some 66) (v:= ?_) (a':= ?_) #[true,true,true,true,true,true,true,true,true,true,true,true,true,true,true,true,false,true,false,false,false,false] rfl rfl (by kernel_rfl) (fun _ _ _ h=>h) (Or.inl ⟨by rfl,?_⟩) ?_ ?_
         rotate_left
         ·intro w'
          go_simp
          with_reducible rfl
         rotate_left
         ·simp only [Act.put,List.setIfInBounds_toArray,List.set_cons_zero,List.set_cons_succ];rfl
         refine join_ (σ:=Value×Nat) 3 #[true,true,true,true,true,true,true,true,true,true,true,true,true,true,true,true,true,true,true,false,false,false] (fun s_=> [(65,s_.1),(67,.slice (some ⟨s_.2,0,none⟩) 1 1)]) (fun s_ w'=>(w'.cell? ⟨g8,0,none⟩=some (.int .i64 ro)∧w'.cell? ⟨gw,0,none⟩=some (.pointer (some ⟨gW,0,none⟩))∧w'.cell? ⟨gd,0,none⟩=some (.int .i64 day)∧w'.cell? ⟨gp,0,none⟩=some (.func (.func 132) #[] #[.pointer (some ⟨gw,0,none⟩),.pointer (some ⟨gf,0,none⟩),.pointer (some ⟨gd,0,none⟩),.pointer (some ⟨gp,0,none⟩)]))∧Kd.R (Kd.int .i64) 3 w' wl.heap.size (fun _=>True) s_.1 p∧w'.heap[s_.2]? =some (.cells #[.int .i64 (s:Int)] 3 (0,0))∧Below wl.heap.size wl w') ?_ ?_
         rotate_left
         ·intro hCont
          refine two_ (i:=16) (j:=18) (Ni:=some 65) (Nj:=some 67) #[true,true,true,true,true,true,true,true,true,true,true,true,true,true,true,true,true,true,false,false,false,false] #[true,true,true,true,true,true,true,true,true,true,true,true,true,true,true,true,false,true,true,false,false,false] rfl rfl rfl rfl (by kernel_rfl) (by decide) (by decide) (fun K hK=> ?_) (fun K hK=> ?_)
          ·refine goes_ Try.func88 (by kernel_rfl) rfl #[.slice Ap p.length cp] (by rfl) rfl rfl (by(try simp only [List.map_toArray,List.map_cons,List.map_nil]);rfl) ?_
           refine(slices_Clone_int.calls Ap cp p p wl (Kd.R_reads' HR.out).2.2 (Kd.R_reads' HR.out).2.1 (by unfold slices_Clone_int.f;rw [if_pos (by omega)])).mono ?_
           rintro e wc ⟨v0,rfl,ho,hbc⟩
           refine⟨_,rfl,?_⟩
           have HO:=Aside0.mk ho
           have HBC:=Aside0.mk hbc
           have HSc:=Aside0.mk (HS.out.below hbc)
           have BK8c:=Aside0.mk (blk_below BK8.out hbc)
           clear ho hbc
           refine hK.out _ _ ⟨(blk_cell BK8c.out 0).trans rfl,(blk_cell HSc.out.bw 0).trans rfl,(blk_cell HSc.out.bd 0).trans rfl,(blk_cell HSc.out.bp 0).trans rfl⟩ (fun hHeld=> ?_)
           clear hK K
           refine norm_ (a':= ?_) ?_ ?_
           rotate_left
           ·show Act.put _ (some 65) _=_;simp only [Act.put,List.setIfInBounds_toArray,List.set_cons_zero,List.set_cons_succ];rfl
           refine one_ (i:=18) (N:=some 67) #[true,true,true,true,true,true,true,true,true,true,true,true,true,true,true,true,true,true,true,false,false,false] rfl rfl (by kernel_rfl) (by decide) (fun K hK=> ?_)
           refine value_ (w1:= ?_) (v:= ?_) (by rfl) rfl ?_ ?_
           rotate_left 2
           ·go_simp
            constructor
            ·rfl
            ·rfl
           refine hK.out _ _ ⟨(blk_cell (blk_alloc BK8c.out _) 0).trans rfl,(blk_cell (blk_alloc HSc.out.bw _) 0).trans rfl,(blk_cell (blk_alloc HSc.out.bd _) 0).trans rfl,(blk_cell (blk_alloc HSc.out.bp _) 0).trans rfl⟩ (fun hHeld=> ?_)
           clear hK K
           exact norm_ (by simp only [putAll,Act.put,List.setIfInBounds_toArray,List.set_cons_zero,List.set_cons_succ]) (hCont (v0,wc.heap.size) _ ⟨hHeld,Kd.R_below HO.out (below_alloc (Below.refl _ _) _),blk_new _ _,below_alloc HBC.out _⟩)
          ·refine value_ (w1:= ?_) (v:= ?_) (by rfl) rfl ?_ ?_
           rotate_left 2
           ·go_simp
            constructor
            ·rfl
            ·rfl
           have hba:=below_alloc (Below.refl wl.heap.size wl) (Obj.cells #[.int .i64 (s:Int)] 3 (0,0))
           have HSa:=Aside0.mk (HS.out.below hba)
           have BK8a:=Aside0.mk (blk_below BK8.out hba)
           have HRa:=Aside0.mk (Kd.R_below HR.out hba)
           refine hK.out _ _ ⟨(blk_cell BK8a.out 0).trans rfl,(blk_cell HSa.out.bw 0).trans rfl,(blk_cell HSa.out.bd 0).trans rfl,(blk_cell HSa.out.bp 0).trans rfl⟩ (fun hHeld=> ?_)
           clear hK K
           refine norm_ (a':= ?_) ?_ ?_
           rotate_left
           ·show Act.put _ (some 67) _=_;simp only [Act.put,List.setIfInBounds_toArray,List.set_cons_zero,List.set_cons_succ];rfl
           refine one_ (i:=16) (N:=some 65) #[true,true,true,true,true,true,true,true,true,true,true,true,true,true,true,true,true,true,true,false,false,false] rfl rfl (by kernel_rfl) (by decide) (fun K hK=> ?_)
           refine goes_ Try.func88 (by kernel_rfl) rfl #[.slice Ap p.length cp] (by rfl) rfl rfl (by(try simp only [List.map_toArray,List.map_cons,List.map_nil]);rfl) ?_
           refine(slices_Clone_int.calls Ap cp p p _ (Kd.R_reads' HRa.out).2.2 (Kd.R_reads' HRa.out).2.1 (by unfold slices_Clone_int.f;rw [if_pos (by omega)])).mono ?_
           rintro e wc ⟨v0,rfl,ho,hbc⟩
           refine⟨_,rfl,?_⟩
           have HSc:=Aside0.mk (HSa.out.below hbc)
           have BK8c:=Aside0.mk (blk_below BK8a.out hbc)
           refine hK.out _ _ ⟨(blk_cell BK8c.out 0).trans rfl,(blk_cell HSc.out.bw 0).trans rfl,(blk_cell HSc.out.bd 0).trans rfl,(blk_cell HSc.out.bp 0).trans rfl⟩ (fun hHeld=> ?_)
           clear hK K
           exact norm_ (by simp only [putAll,Act.put,List.setIfInBounds_toArray,List.set_cons_zero,List.set_cons_succ]) (hCont (v0,wl.heap.size) _ ⟨hHeld,Kd.R_lower ho hba.size,blk_below (blk_new _ _) hbc,below_step hba hbc⟩)
         rintro⟨v0,gl⟩ wj ⟨hHeld,ho,hgl,hbj⟩
         refine norm_ (a':= ?_) ?_ ?_
         rotate_left
         ·simp only [putAll,Act.put,List.setIfInBounds_toArray,List.set_cons_zero,List.set_cons_succ]
          rfl
         refine one_ (i:=19) (N:=some 68) #[true,true,true,true,true,true,true,true,true,true,true,true,true,true,true,true,true,true,true,true,false,false] rfl rfl (by kernel_rfl) (by decide) (fun K hK=> ?_)
         refine Kd.R_append_rows_step (Kd.int .i64) (Rr:=(Kd.int .i64).K wj) (w0:=wl) wl.heap.size (by rfl) (.tmp 65) (.tmp 67) 25 3 (.int .i64 0) 8 rfl Try.underlying25 info3 rfl (by decide) (by omega) v0 p [(s:Int)] (some ⟨gl,0,none⟩) 1 1 (fun _=>True) (fun _=>False) rfl rfl ho (lit_row hgl) (fun x cs h=>h) (fun _ hk=>hk.elim) (fun _ _=>trivial) hbj hbj.size ?aL ?_
         (case aL=>omega)
         intro v9 w9 ho9 hb9 hg9 hat9
         have hrow:Kd.R (Kd.int .i64) 3 w9 w0.heap.size (okP gM gf) v9 (p++ [(s:Int)]):=by
          refine Kd.R_lower (Kd.R_mono (Kd.R_bound ho9) (fun k hk=> ?_)) HS.out.job.bel.size
          have h1:=HS.out.memo.lt
          obtain⟨fv1,hbf⟩:=HS.out.bf
          have h2:=blk_lt hbf
          exact⟨by omega,by omega⟩
         have HS9:=Aside0.mk (HS.out.below hb9)
         have BK89:=Aside0.mk (blk_below BK8.out hb9)
         have HR9:=Aside0.mk (Kd.R_below HR.out hb9)
         have HT9:=Aside0.mk (HT.out.trans (Turn.of_below hb9))
         have HROW:=Aside0.mk hrow
         clear ho9 hb9 hg9 hat9 hrow
         refine hK.out _ _ ⟨(blk_cell BK89.out 0).trans rfl,(blk_cell HS9.out.bw 0).trans rfl,(blk_cell HS9.out.bd 0).trans rfl,(blk_cell HS9.out.bp 0).trans rfl⟩ (fun hHeld=> ?_)
         clear hK K
         refine norm_ (a':= ?_) ?_ ?_
         rotate_left
         ·show Act.put _ (some 68) _=_;simp only [Act.put,List.setIfInBounds_toArray,List.set_cons_zero,List.set_cons_succ];rfl
         refine one_ (i:=20) (N:=some 69) #[true,true,true,true,true,true,true,true,true,true,true,true,true,true,true,true,true,true,true,true,true,false] rfl rfl (by kernel_rfl) (by decide) (fun K hK=> ?_)
         refine call_ 132 #[v9,.pointer (some ⟨gw,0,none⟩),.pointer (some ⟨gf,0,none⟩),.pointer (some ⟨gd,0,none⟩),.pointer (some ⟨gp,0,none⟩)] (by rfl) rfl (by have h_:=enters_ Try.func132 (by kernel_rfl) rfl #[v9,.pointer (some ⟨gw,0,none⟩),.pointer (some ⟨gf,0,none⟩),.pointer (some ⟨gd,0,none⟩),.pointer (some ⟨gp,0,none⟩)] w9;unfold execOp;simp [resolve,Deferred.ofValue,invoke,Act.eval,h_]) ?_
         refine(IH.out (p++ [(s:Int)]) v9 w9 (by rw [List.length_append,List.length_singleton];have:=HK.out;omega) HS9.out HROW.out).mono ?_
         rw [←HR2.out]
         rintro e wp ⟨rfl,hsp,htp,hqp⟩
         refine⟨_,rfl,?_⟩
         have hn8:¬(g8=gM∨g8=gf):=fun hh=>hh.elim (memo_ne HS9.out.memo BK89.out) (fun e=>by obtain⟨fv1,hbf⟩:=HS9.out.bf;exact blk_ne BK89.out hbf (by decide) e)
         have BK8p:=Aside0.mk (htp.blk BK89.out hn8)
         have HSP:=Aside0.mk hsp
         have HRP2:=Aside0.mk (Kd.R_step HR9.out (fun k hk hlt=>htp.block k hlt (fun hh=>hh.elim hk.1 hk.2)))
         have HTP:=Aside0.mk (HT9.out.trans htp)
         have HQP:=Aside0.mk hqp
         clear hn8 hsp htp hqp
         refine hK.out _ _ ⟨(blk_cell BK8p.out 0).trans rfl,(blk_cell HSP.out.bw 0).trans rfl,(blk_cell HSP.out.bd 0).trans rfl,(blk_cell HSP.out.bp 0).trans rfl⟩ (fun hHeld=> ?_)
         clear hK K
         refine norm_ (a':= ?_) ?_ ?_
         rotate_left
         ·show Act.put _ (some 69) _=_;simp only [Act.put,List.setIfInBounds_toArray,List.set_cons_zero,List.set_cons_succ];rfl
         refine pure_ (i:=21) (N:=some 70) (v:= ?_) (a':= ?_) #[true,true,true,true,true,true,true,true,true,true,true,true,true,true,true,true,true,true,true,true,true,true] rfl rfl (by kernel_rfl) (fun _ _ _ h=>h) (Or.inl ⟨by rfl,?_⟩) ?_ ?_
         rotate_left
         ·intro w'
          go_simp
          with_reducible rfl
         rotate_left
         ·simp only [Act.put,List.setIfInBounds_toArray,List.set_cons_zero,List.set_cons_succ];rfl
         refine done_ (by kernel_rfl) ?_
         have HRQ:=Aside0.mk (show r=some q by rw [HST.out,HFS.out];rfl)
         go_wp2
         go_ret
         exact⟨by rw [HRQ.out];rfl,HSP.out,HTP.out,fun q' hq'=>by rw [HRQ.out]at hq';exact HQP.out q' hq'⟩
       ·have hleb:decide (gd_≤day)=false:=decide_eq_false hle
        have HLE2:=Aside0.mk hle
        clear hle
        refine start_ (n:=22) (S:=fun w'=>w'.cell? ⟨g8,0,none⟩=some (.int .i64 ro)∧w'.cell? ⟨gw,0,none⟩=some (.pointer (some ⟨gW,0,none⟩))∧w'.cell? ⟨gd,0,none⟩=some (.int .i64 day)∧w'.cell? ⟨gp,0,none⟩=some (.func (.func 132) #[] #[.pointer (some ⟨gw,0,none⟩),.pointer (some ⟨gf,0,none⟩),.pointer (some ⟨gd,0,none⟩),.pointer (some ⟨gp,0,none⟩)])) (ds:= []) #[false,false,false,false,false,false,false,false,false,false,false,false,false,false,false,false,false,false,false,false,false,false] (by kernel_rfl) rfl rfl ⟨(blk_cell BK8.out 0).trans rfl,(blk_cell HS.out.bw 0).trans rfl,(blk_cell HS.out.bd 0).trans rfl,(blk_cell HS.out.bp 0).trans rfl⟩ (fun hHeld=> ?_)
        generalize w8.drew=wd at BK8 HS HR HT hHeld ⊢
        refine pure_ (i:=0) (N:=some 49) (v:= ?_) (a':= ?_) #[true,false,false,false,false,false,false,false,false,false,false,false,false,false,false,false,false,false,false,false,false,false] rfl rfl (by kernel_rfl) (fun _ _ _ h=>h) (Or.inl ⟨by rfl,?_⟩) ?_ ?_
        rotate_left
        ·intro w'
         go_simp
         with_reducible rfl
        rotate_left
        ·simp only [Act.put,List.setIfInBounds_toArray,List.set_cons_zero,List.set_cons_succ];rfl
        refine take_ (i:=1) (N:=some 50) (v:= ?_) (a':= ?_) #[true,true,false,false,false,false,false,false,false,false,false,false,false,false,false,false,false,false,false,false,false,false] rfl rfl (by kernel_rfl) (fun _ _ _ h=>h) (Or.inl ⟨by rfl,?_⟩) hHeld ?_ ?_
        rotate_left
        ·rintro w' ⟨s0,s1,s2,s3⟩
         go_simp
         with_reducible rfl
        rotate_left
        ·simp only [Act.put,List.setIfInBounds_toArray,List.set_cons_zero,List.set_cons_succ];rfl
        refine pure_ (i:=2) (N:=some 51) (v:= ?_) (a':= ?_) #[true,true,true,false,false,false,false,false,false,false,false,false,false,false,false,false,false,false,false,false,false,false] rfl rfl (by kernel_rfl) (fun _ _ _ h=>h) (Or.inl ⟨by rfl,?_⟩) ?_ ?_
        rotate_left
        ·intro w'
         go_simp
         with_reducible rfl
        rotate_left
        ·simp only [Act.put,List.setIfInBounds_toArray,List.set_cons_zero,List.set_cons_succ];rfl
        refine pure_ (i:=3) (N:=some 52) (v:= ?_) (a':= ?_) #[true,true,true,true,false,false,false,false,false,false,false,false,false,false,false,false,false,false,false,false,false,false] rfl rfl (by kernel_rfl) (fun _ _ _ h=>h) (Or.inl ⟨by rfl,?_⟩) ?_ ?_
        rotate_left
        ·intro w'
         go_simp
         with_reducible rfl
        rotate_left
        ·simp only [Act.put,List.setIfInBounds_toArray,List.set_cons_zero,List.set_cons_succ];rfl
        refine take_ (i:=4) (N:=some 53) (v:= ?_) (a':= ?_) #[true,true,true,true,true,false,false,false,false,false,false,false,false,false,false,false,false,false,false,false,false,false] rfl rfl (by kernel_rfl) (fun _ _ _ h=>h) (Or.inl ⟨by rfl,?_⟩) hHeld ?_ ?_
        rotate_left
        ·rintro w' ⟨s0,s1,s2,s3⟩
         go_simp
         with_reducible rfl
        rotate_left
        ·simp only [Act.put,List.setIfInBounds_toArray,List.set_cons_zero,List.set_cons_succ];rfl
        refine pure_ (i:=5) (N:=some 54) (v:= ?_) (a':= ?_) #[true,true,true,true,true,true,false,false,false,false,false,false,false,false,false,false,false,false,false,false,false,false] rfl rfl (by kernel_rfl) (fun _ _ _ h=>h) (Or.inl ⟨by rfl,?_⟩) ?_ ?_
        rotate_left
        ·intro w'
         go_simp
         with_reducible rfl
        rotate_left
        ·simp only [Act.put,List.setIfInBounds_toArray,List.set_cons_zero,List.set_cons_succ];rfl
        refine pure_ (i:=6) (N:=some 55) (v:= ?_) (a':= ?_) #[true,true,true,true,true,true,true,false,false,false,false,false,false,false,false,false,false,false,false,false,false,false] rfl rfl (by kernel_rfl) (fun _ _ _ h=>h) (Or.inl ⟨by rfl,?_⟩) ?_ ?_
        rotate_left
        ·intro w'
         go_simp
         with_reducible rfl
        rotate_left
        ·simp only [Act.put,List.setIfInBounds_toArray,List.set_cons_zero,List.set_cons_succ];rfl
        refine pure_ (i:=7) (N:=some 56) (v:= ?_) (a':= ?_) #[true,true,true,true,true,true,true,true,false,false,false,false,false,false,false,false,false,false,false,false,false,false] rfl rfl (by kernel_rfl) (fun _ _ _ h=>h) (Or.inl ⟨by rfl,?_⟩) ?_ ?_
        rotate_left
        ·intro w'
         go_simp
         with_reducible rfl
        rotate_left
        ·simp only [Act.put,List.setIfInBounds_toArray,List.set_cons_zero,List.set_cons_succ];rfl
        refine pure_ (i:=8) (N:=some 57) (v:= ?_) (a':= ?_) #[true,true,true,true,true,true,true,true,true,false,false,false,false,false,false,false,false,false,false,false,false,false] rfl rfl (by kernel_rfl) (fun _ _ _ h=>h) (Or.inl ⟨by rfl,?_⟩) ?_ ?_
        rotate_left
        ·intro w'
         go_simp
         with_reducible rfl
        rotate_left
        ·simp only [Act.put,List.setIfInBounds_toArray,List.set_cons_zero,List.set_cons_succ];rfl
        refine take_ (i:=10) (N:=some 59) (v:= ?_) (a':= ?_) #[true,true,true,true,true,true,true,true,true,false,true,false,false,false,false,false,false,false,false,false,false,false] rfl rfl (by kernel_rfl) (fun _ _ _ h=>h) (Or.inl ⟨by rfl,?_⟩) hHeld ?_ ?_
        rotate_left
        ·rintro w' ⟨s0,s1,s2,s3⟩
         go_simp
         with_reducible rfl
        rotate_left
        ·simp only [Act.put,List.setIfInBounds_toArray,List.set_cons_zero,List.set_cons_succ];rfl
        refine one_ (i:=9) (N:=some 58) #[true,true,true,true,true,true,true,true,true,true,true,false,false,false,false,false,false,false,false,false,false,false] rfl rfl (by kernel_rfl) (by decide) (fun K hK=> ?_)
        refine goes_ Try.func85 (by kernel_rfl) rfl #[.pointer (some ⟨gW,0,none⟩),.agg #[.int .i64 (p.length:Int),.int .i64 (s:Int)]] (by rfl) rfl rfl (by(try simp only [List.map_toArray,List.map_cons,List.map_nil]);rfl) ?_
        refine(good.calls ⟨A1,c1,some ad2,c2,A3,c3,A4,c4,A5,c5⟩ l gW gM A7 c7 (p.length:Int) (s:Int) w0 wd HS.out.job HS.out.memo HF.out HSPOT.out).mono ?_
        rintro e wl ⟨rfl,hj,hm,ht⟩
        refine⟨_,rfl,?_⟩
        have hne8:=memo_ne HS.out.memo BK8.out
        replace BK8:=Aside0.mk (ht.blk BK8.out hne8)
        replace HS:=Aside0.mk (HS.out.turnM ht hm)
        replace HR:=Aside0.mk (Kd.R_step HR.out (fun k hk hlt=>ht.block k hlt hk.1))
        replace HT:=Aside0.mk (HT.out.trans (ht.mono (fun k hk=> .inl hk)))
        clear hj hm ht hne8
        rw [←HGD.out]
        refine hK.out _ _ ⟨(blk_cell BK8.out 0).trans rfl,(blk_cell HS.out.bw 0).trans rfl,(blk_cell HS.out.bd 0).trans rfl,(blk_cell HS.out.bp 0).trans rfl⟩ (fun hHeld=> ?_)
        clear hK K
        refine norm_ (a':= ?_) ?_ ?_
        rotate_left
        ·show Act.put _ (some 58) _=_;simp only [Act.put,List.setIfInBounds_toArray,List.set_cons_zero,List.set_cons_succ];rfl
        refine pure_ (i:=11) (N:=some 60) (v:= ?_) (a':= ?_) #[true,true,true,true,true,true,true,true,true,true,true,true,false,false,false,false,false,false,false,false,false,false] rfl rfl (by kernel_rfl) (fun _ _ _ h=>h) (Or.inl ⟨by rfl,?_⟩) ?_ ?_
        rotate_left
        ·intro w'
         go_simp
         with_reducible rfl
        rotate_left
        ·simp only [Act.put,List.setIfInBounds_toArray,List.set_cons_zero,List.set_cons_succ];rfl
        refine pure_ (i:=12) (N:=some 61) (v:= ?_) (a':= ?_) #[true,true,true,true,true,true,true,true,true,true,true,true,true,false,false,false,false,false,false,false,false,false] rfl rfl (by kernel_rfl) (fun _ _ _ h=>h) (Or.inl ⟨by rfl,?_⟩) ?_ ?_
        rotate_left
        ·intro w'
         go_simp
         with_reducible rfl
        rotate_left
        ·simp only [Act.put,List.setIfInBounds_toArray,List.set_cons_zero,List.set_cons_succ];rfl
        refine pure_ (i:=13) (N:=some 62) (v:= ?_) (a':= ?_) #[true,true,true,true,true,true,true,true,true,true,true,true,true,true,false,false,false,false,false,false,false,false] rfl rfl (by kernel_rfl) (fun _ _ _ h=>h) (Or.inl ⟨by rfl,?_⟩) ?_ ?_
        rotate_left
        ·intro w'
         go_simp
         with_reducible rfl
        rotate_left
        ·simp only [Act.put,List.setIfInBounds_toArray,List.set_cons_zero,List.set_cons_succ];rfl
        refine pure_ (i:=14) (N:=some 63) (v:=undef) (a':= ?_) #[true,true,true,true,true,true,true,true,true,true,true,true,true,true,true,false,false,false,false,false,false,false] rfl rfl (by kernel_rfl) (fun _ _ _ h=>h) (Or.inr ⟨by rfl,rfl⟩) ?_ ?_
        rotate_left
        ·simp only [Act.put,List.setIfInBounds_toArray,List.set_cons_zero,List.set_cons_succ];rfl
        refine pure_ (i:=15) (N:=some 64) (v:=undef) (a':= ?_) #[true,true,true,true,true,true,true,true,true,true,true,true,true,true,true,true,false,false,false,false,false,false] rfl rfl (by kernel_rfl) (fun _ _ _ h=>h) (Or.inr ⟨by rfl,rfl⟩) ?_ ?_
        rotate_left
        ·simp only [Act.put,List.setIfInBounds_toArray,List.set_cons_zero,List.set_cons_succ];rfl
        refine pure_ (i:=16) (N:=some 65) (v:=undef) (a':= ?_) #[true,true,true,true,true,true,true,true,true,true,true,true,true,true,true,true,true,false,false,false,false,false] rfl rfl (by kernel_rfl) (fun _ _ _ h=>h) (Or.inr ⟨by rfl,rfl⟩) ?_ ?_
        rotate_left
        ·simp only [Act.put,List.setIfInBounds_toArray,List.set_cons_zero,List.set_cons_succ];rfl
        refine pure_ (i:=17) (N:=some 66) (v:=undef) (a':= ?_) #[true,true,true,true,true,true,true,true,true,true,true,true,true,true,true,true,true,true,false,false,false,false] rfl rfl (by kernel_rfl) (fun _ _ _ h=>h) (Or.inr ⟨by rfl,rfl⟩) ?_ ?_
        rotate_left
        ·simp only [Act.put,List.setIfInBounds_toArray,List.set_cons_zero,List.set_cons_succ];rfl
        refine pure_ (i:=18) (N:=some 67) (v:=undef) (a':= ?_) #[true,true,true,true,true,true,true,true,true,true,true,true,true,true,true,true,true,true,true,false,false,false] rfl rfl (by kernel_rfl) (fun _ _ _ h=>h) (Or.inr ⟨by rfl,rfl⟩) ?_ ?_
        rotate_left
        ·simp only [Act.put,List.setIfInBounds_toArray,List.set_cons_zero,List.set_cons_succ];rfl
        refine pure_ (i:=19) (N:=some 68) (v:=undef) (a':= ?_) #[true,true,true,true,true,true,true,true,true,true,true,true,true,true,true,true,true,true,true,true,false,false] rfl rfl (by kernel_rfl) (fun _ _ _ h=>h) (Or.inr ⟨by rfl,rfl⟩) ?_ ?_
        rotate_left
        ·simp only [Act.put,List.setIfInBounds_toArray,List.set_cons_zero,List.set_cons_succ];rfl
        refine pure_ (i:=20) (N:=some 69) (v:=undef) (a':= ?_) #[true,true,true,true,true,true,true,true,true,true,true,true,true,true,true,true,true,true,true,true,true,false] rfl rfl (by kernel_rfl) (fun _ _ _ h=>h) (Or.inr ⟨by rfl,rfl⟩) ?_ ?_
        rotate_left
        ·simp only [Act.put,List.setIfInBounds_toArray,List.set_cons_zero,List.set_cons_succ];rfl
        refine pure_ (i:=21) (N:=some 70) (v:= ?_) (a':= ?_) #[true,true,true,true,true,true,true,true,true,true,true,true,true,true,true,true,true,true,true,true,true,true] rfl rfl (by kernel_rfl) (fun _ _ _ h=>h) (Or.inl ⟨by rfl,?_⟩) ?_ ?_
        rotate_left
        ·intro w'
         go_simp
         with_reducible rfl
        rotate_left
        ·simp only [Act.put,List.setIfInBounds_toArray,List.set_cons_zero,List.set_cons_succ];rfl
        refine done_ (by kernel_rfl) ?_
        have hFn:F s=none:=by
         rw [HFE.out]
         refine if_neg ?_
         unfold SL.fits
         rw [←HGD.out,decide_eq_true_eq]
         rintro⟨_,_,h3⟩
         exact HLE2.out h3
        go_wp2
        exact⟨⟨s+1,by simp,by omega,⟨by rw [HST.out,hFn];rfl⟩,HS,HR,HT⟩,by simp [intOf];omega⟩
      ·have hrob:decide (0 < ro)=false:=decide_eq_false hro
       have HN:=Aside0.mk hro
       clear hro
       go_quiet (fail)
       have hb_:=pw_below_drewN (Below.refl w8.heap.size w8) nq
       have hFn:F s=none:=by
        rw [HFE.out]
        refine if_neg ?_
        unfold SL.fits
        rw [←HRO.out,decide_eq_true_eq]
        rintro⟨h1,_⟩
        exact HN.out h1
       go_wp2
       exact⟨⟨s+1,by simp,by omega,⟨by rw [HST.out,hFn];rfl⟩,⟨HS.out.below hb_⟩,⟨Kd.R_below HR.out hb_⟩,⟨HT.out.trans (Turn.of_below hb_)⟩⟩,by simp [intOf];omega⟩
   ·have hse:s=l.l2.length:=by omega
    have HN:=Aside0.mk (show r=none by rw [←HE.out,hse,List.drop_of_length_le (by simp)];rfl)
    have hlti:(l.l2.length:Int)≤(s:Int):=by omega
    clear hse
    go_wp2
    rw [Exit.noGoto_ret]
    go_ret
    exact⟨by rw [HN.out];rfl,HS.out,HT.out,fun q hq=>by rw [HN.out]at hq;cases hq⟩
end Go.Proofs.Ytjifalohjlihaaa.Q
end
section
namespace Go.Proofs.Ytjifalohjlihaaa.Q
set_option linter.unusedVariables false
open Go.BigFrame Go.RowKit Go.Shelf Go.Proofs.YtjifalohjlihaaaW.PrintWords Go.Proofs.YtjifalohjlihaaaW.PrintLast Go.Proofs.YtjifalohjlihaaaW.PrintMore
def SL.placeBy (l:SL) (day:Int):Option (List Int):=l.search day l.l3.length []
theorem results_cell2 {P:Program} {fn:Func} {t:TypeId} {a u:Tmp} (h:fn.results=#[.cell a t,.tmp u]) {tmps:Array Value} {w:World} {g:Nat} {v:Value} (ht:tmps.getD a undef= .pointer (some ⟨g,0,none⟩)) (hl:(loadVar t ⟨g,0,none⟩).run P w= .ok v w):(results fn tmps).run P w= .ok (.tuple #[v,tmps.getD u undef]) w:=by
 rw [results_cell_tmp h,ht]
 simp [asAddr,Result.andThen,hl]
theorem load_slice {w:World} {g:Nat} {A:Option Addr} {n c:Nat} {t:TypeId} (h:w.heap[g]? =some (.cells #[.slice A n c] t (0,0))):(loadVar 25 ⟨g,0,none⟩).run Try.prog w= .ok (.slice A n c) w:=by
 have h1:w.cell? ⟨g,0,none⟩=some (.slice A n c):=(blk_cell h 0).trans rfl
 have h2:=blk_frozen h 0
 go_simp
attribute [local go_sem] run_store_func
set_option maxRecDepth 100000 in
set_option maxHeartbeats 6400000 in
theorem place_calls (x:SA) (l:SL) (gW gM:Nat) (A7:Option Addr) (c7:Nat) (day:Int) (w0 w:World) (hJ:Job w0 w x l gW gM A7 c7) (hM:l.Days w gM) (hf:l.fault=0) (hne:l.truths≠ []):
  Calls Try.prog 110 #[.pointer (some ⟨gW,0,none⟩),.int .i64 day] w fun e w'=>∃v,e= .returned (.tuple #[v,.bool (l.placeBy day).isSome])∧Job w0 w' x l gW gM A7 c7∧l.Days w' gM∧Below w0.heap.size w0 w'∧
   ∀q,l.placeBy day=some q→Kd.R (Kd.int .i64) 3 w' w0.heap.size (fun _=>True) v q:=by
 have J:=Aside0.mk hJ
 have HM:=Aside0.mk hM
 have HF:=Aside0.mk hf
 have HB:=Aside0.mk (Below.refl w.heap.size w)
 obtain⟨r,hr⟩:∃r,r=l.placeBy day:=⟨_,rfl⟩
 have HR2:=Aside0.mk (show l.search day l.l3.length []=r by rw [hr];rfl)
 rw [←hr]
 clear hJ hM hf hr
 go_enter Try.func110,Try.ntmps110
 go_upto_region 2 with(first|((with_reducible refine gate_dst (N:=2) rfl ?_);refine box_event ?hg (N:=2) ?hd (cs:=#[.pointer (some ⟨gW,0,none⟩)]) (t:=120) ?hr ?_;(case hd=>rfl);(case hg=>rfl);(case hr=>first|(go_simp;done)|(go_simp;rfl));intro g2 hg_ w2 hbx_ hb_;have BK2:=Aside0.mk hbx_;have g2ge:w.heap.size≤g2:=(by have:=below_size HB.out;omega);have g2GE:=Aside0.mk g2ge;clear g2ge;have HBn:=Aside0.mk (below_step HB.out hb_);clear HB hg_ hb_ hbx_;have HB:=HBn;clear HBn)|((with_reducible refine gate_dst (N:=3) rfl ?_);refine box_event ?hg (N:=3) ?hd (cs:=#[.int .i64 day]) (t:=3) ?hr ?_;(case hd=>rfl);(case hg=>rfl);(case hr=>first|(go_simp;done)|(go_simp;rfl));intro g3 hg_ w3 hbx_ hb_;have BK3:=Aside0.mk hbx_;have g3ge:w.heap.size≤g3:=(by have:=below_size HB.out;omega);have g3GE:=Aside0.mk g3ge;clear g3ge;have HBn:=Aside0.mk (below_step HB.out hb_);have z_:=Aside0.mk (blk_below BK2.out hb_);clear BK2;have BK2:=z_;clear z_;clear HB hg_ hb_ hbx_;have HB:=HBn;clear HBn))
 obtain⟨gf,hgf⟩:∃k,k=w3.heap.size:=⟨_,rfl⟩
 obtain⟨gp,hgp⟩:∃k,k=w3.heap.size+1:=⟨_,rfl⟩
 obtain⟨w4,hw4⟩:∃w_,w_=World.alloc (World.alloc w3 (Obj.cells #[.slice none 0 0] 25 (0,0))) (Obj.cells #[.nilFunc] 123 (0,0)):=⟨_,rfl⟩
 have BF:w4.heap[gf]? =some (.cells #[.slice none 0 0] 25 (0,0)):=by rw [hw4,hgf];exact blk_alloc (blk_new _ _) _
 have BP:w4.heap[gp]? =some (.cells #[.nilFunc] 123 (0,0)):=by
  have h_:=blk_new (World.alloc w3 (Obj.cells #[.slice none 0 0] 25 (0,0))) (Obj.cells #[.nilFunc] 123 (0,0))
  rw [World.size_alloc]at h_
  rw [hw4,hgp];exact h_
 have hb4:Below w3.heap.size w3 w4:=by rw [hw4];exact below_alloc (below_alloc (Below.refl _ _) _) _
 have hb04:=below_step HB.out hb4
 replace BK2:=Aside0.mk (blk_below BK2.out hb4)
 replace BK3:=Aside0.mk (blk_below BK3.out hb4)
 have J4:=J.out.below hb04
 have M4:=HM.out.keep (hb04.block gM HM.out.lt)
 rw [←hw4,←hgp,←hgf]
 have fp:w4.cell? ⟨gp,0,none⟩=some .nilFunc:=(blk_cell BP 0).trans rfl
 have ffp:=blk_frozen BP 0
 have hwge:w.heap.size≤gp:=by have:=HB.out.size;omega
 have hwgf:w.heap.size≤gf:=by have:=HB.out.size;omega
 have hb5:Below w.heap.size w (w4.setCell ⟨gp,0,none⟩ (.func (.func 132) #[] #[.pointer (some ⟨g2,0,none⟩),.pointer (some ⟨gf,0,none⟩),.pointer (some ⟨g3,0,none⟩),.pointer (some ⟨gp,0,none⟩)])):=below_set hb04 hwge
 have hS:PutS w0 (w4.setCell ⟨gp,0,none⟩ (.func (.func 132) #[] #[.pointer (some ⟨g2,0,none⟩),.pointer (some ⟨gf,0,none⟩),.pointer (some ⟨g3,0,none⟩),.pointer (some ⟨gp,0,none⟩)])) x l gW gM A7 c7 g2 gf g3 gp day:=by
  refine⟨J.out.below hb5,HM.out.keep (hb5.block gM HM.out.lt),blk_far BK2.out (blk_ne BK2.out BP (by decide)) _,blk_far BK3.out (blk_ne BK3.out BP (by decide)) _,blk_set BP 0 _,⟨(none,0,0),blk_far BF (blk_ne BF BP (by decide)) _⟩,Nat.le_trans J.out.bel.size hwgf,fun a e hh=> ?_⟩
  have hn:0 < l.truths.length:=List.length_pos_iff.2 hne
  obtain⟨a',e',hj⟩:=J.out.work.tr.2.2 hn
  obtain rfl:a'=a:=by rw [e]at e';exact(Option.some.inj e').symm
  obtain⟨c,hl,hK,hi⟩:=hj 0 _ (List.getElem?_eq_getElem hn)
  have hc:c≠ []:=by intro hc;rw [hc]at hl;cases hl
  obtain⟨u,t,rfl⟩:∃u t,c=u::t:=by cases c with|nil=>exact absurd rfl hc|cons u t=>exact⟨u,t,rfl⟩
  have h0:=World.block_lt_of_cell? _ _ (hi 0 u rfl)
  rw [add_block]at h0
  omega
 have HS:=Aside0.mk hS
 have HC:=Aside0.mk (put_calls x l gW gM A7 c7 g2 gf g3 gp day w0 HF.out l.l3.length [] (.slice none 0 0) _ (by simp) hS (Kd.R_nil _ _ _ _ _))
 clear hw4 hgp hgf hS BP BF hb4 J4 M4
 rw [HR2.out]at HC
 go_wp2_with (go_at_call 132;go_must (refine HC.out.mono ?_;rintro e wp ⟨rfl,hsp,htp,hqp⟩;have hfv:∃(fA:Option Addr) (fn fc:Nat),wp.heap[gf]? =some (.cells #[.slice fA fn fc] 25 (0,0))∧∀q,r=some q→Kd.R (Kd.int .i64) 3 wp w0.heap.size (okP gM gf) (.slice fA fn fc) q:=(by cases r with|none=>(obtain⟨fv,h⟩:=hsp.bf;exact⟨_,_,_,h,fun q hq=>by cases hq⟩)|some q=>(obtain⟨fv,h,h2⟩:=hqp q rfl;obtain⟨fA,fc,rfl⟩:=Kd.R_slice h2;exact⟨_,_,_,h,fun q' hq=>by cases hq;exact h2⟩));obtain⟨fA,fn,fc,hfv1,hfv2⟩:=hfv;have HSP:=Aside0.mk hsp;have BFV:=Aside0.mk hfv1;have HQ:=Aside0.mk hfv2;clear hsp htp hqp hfv1 hfv2 fp ffp;have ff:wp.cell? ⟨gf,0,none⟩=some (.slice fA fn fc):=(blk_cell BFV.out 0).trans rfl;have fz:=blk_frozen BFV.out 0))
 have ht1:Turn (fun k=>k=gM∨k=gf) wp (wp.setCell ⟨gf,0,none⟩ (.slice fA fn fc)):=Turn.set (a:=⟨gf,0,none⟩) (.inr rfl) _
 have hmf:gM≠gf:=fun e=>memo_ne HSP.out.memo BFV.out e.symm
 have HP2:=HSP.out.turn2 ht1 (HSP.out.memo.keep (Below.heap_setCell wp _ _ gM hmf)) ⟨(fA,fn,fc),blk_set BFV.out 0 _⟩
 refine bodyPost_ret (results_cell2 rfl rfl (load_slice (blk_set BFV.out 0 _))) rfl ?_
 exact⟨_,rfl,HP2.job,HP2.memo,HP2.job.bel,fun q hq=>Kd.R_mono (Kd.R_far (HQ.out q hq) (fun k hk=>hk.2) _) (fun _ _=>trivial)⟩
end Go.Proofs.Ytjifalohjlihaaa.Q
end
section
namespace Go.Proofs.Ytjifalohjlihaaa.Q
set_option linter.unusedVariables false
open Go.BigFrame Go.RowKit Go.Shelf Go.Proofs.YtjifalohjlihaaaW.PrintWords Go.Proofs.YtjifalohjlihaaaW.PrintLast Go.Proofs.YtjifalohjlihaaaW.PrintMore
def SL.upTo (l:SL) (k:Nat):SL:= {l with l5:=l.l5.take k}
theorem rd_take (l:List S137) (k:Nat) (i:Int) (h0:0≤i) (h1:i <(l.take k).length):rd_T137 (l.take k) i=rd_T137 l i:=by
 unfold rd_T137
 rw [List.getD_eq_getElem?_getD,List.getD_eq_getElem?_getD,List.getElem?_take_of_lt (by rw [List.length_take]at h1;omega)]
theorem Valid.upTo {l:SL} (hv:Valid l) (k:Nat):Valid (l.upTo k):=by
 refine⟨hv.last0,hv.last5,hv.air,hv.airs,hv.shelf3,hv.shelves,hv.cake5,hv.cakes,hv.put,hv.puts,?_,fun i h0 h1=> ?_⟩
 ·have:=hv.weight5
  show(l.l5.take k).length≤5
  rw [List.length_take];omega
 ·have h1':i <(l.l5.take k).length:=h1
  have h2:i < l.l5.length:=by rw [List.length_take]at h1';omega
  have h3:=hv.weights i h0 h2
  show _∧_
  rw [show(l.upTo k).l5=l.l5.take k from rfl,rd_take _ _ _ h0 h1']
  exact h3
def SL.firstFrom (l:SL):Nat→Nat→Option Int
 |0,_=>none
 |k+1,i=>if (l.upTo (i+1)).possible []=false then some i else l.firstFrom k (i+1)
def SL.firstErr (l:SL):Int:=if l.fault≠0 then l.fault else if l.firstFrom l.l5.length 0=none then 7 else 0
def SL.firstOf (l:SL):Int:=if l.firstErr=0 then(l.firstFrom l.l5.length 0).getD 0 else 0
set_option maxRecDepth 100000 in
set_option maxHeartbeats 6400000 in
theorem First.calls (x:SA) (l:SL) (w:World) (hr:Rd w x l):
  Calls Try.prog 37 #[.agg (x.cells l)] w fun e w'=>e= .returned (.tuple #[.int .i64 l.firstOf,.int .i64 l.firstErr])∧Below w.heap.size w w':=by
 obtain⟨A1,c1,A2,c2,A3,c3,A4,c4,A5,c5⟩:=x
 have HB:=Aside0.mk (Below.refl w.heap.size w)
 have HR:=Aside0.mk hr
 obtain⟨er,her⟩:∃er,er=l.fault:=⟨_,rfl⟩
 obtain⟨dv,hdv⟩:∃dv,dv=l.firstOf:=⟨_,rfl⟩
 obtain⟨de,hde⟩:∃de,de=l.firstErr:=⟨_,rfl⟩
 rw [←hdv,←hde]
 have HDE:=Aside0.mk (show de=if er≠0 then er else if l.firstFrom l.l5.length 0=none then 7 else 0 by rw [hde,her];rfl)
 have HDV:=Aside0.mk (show dv=if de=0 then(l.firstFrom l.l5.length 0).getD 0 else 0 by rw [hdv,hde];rfl)
 have HER:=Aside0.mk her
 clear hr her hdv hde
 go_enter Try.func37,Try.ntmps37
 by_cases hz:er=0
 ·have hzb:(l.fault !=0)=false:=by rw [←HER.out,hz];rfl
  have HZ:=Aside0.mk hz
  have HV:=Aside0.mk (valid_of (HER.out.symm.trans hz))
  have h55:=HV.out.weight5
  have h55c:=HR.out.h5
  clear hz
  go_upto_region 5 with(first|((with_reducible refine gate_dst (N:=1) rfl ?_);refine box_event ?hg (N:=1) ?hd (cs:=#[.int .i64 l.a0,.slice A1 l.l1.length c1,.slice A2 l.l2.length c2,.slice A3 l.l3.length c3,.slice A4 l.l4.length c4,.slice A5 l.l5.length c5]) (t:=39) ?hr ?_;(case hd=>rfl);(case hg=>rfl);(case hr=>first|(go_simp;done)|(go_simp;rfl));intro g1 hg_ w1 hbx_ hb_;have BK1:=Aside0.mk hbx_;have g1ge:w.heap.size≤g1:=(by have:=below_size HB.out;omega);have g1GE:=Aside0.mk g1ge;clear g1ge;have HBn:=Aside0.mk (below_step HB.out hb_);clear HB hg_ hb_ hbx_;have HB:=HBn;clear HBn;have f0:w1.cell? ⟨g1,0,none⟩=some (.int .i64 l.a0):=(blk_cell BK1.out 0).trans rfl;have f1:w1.cell? ⟨g1,1,none⟩=some (.slice A1 l.l1.length c1):=(blk_cell BK1.out 1).trans rfl;have f2:w1.cell? ⟨g1,2,none⟩=some (.slice A2 l.l2.length c2):=(blk_cell BK1.out 2).trans rfl;have f3:w1.cell? ⟨g1,3,none⟩=some (.slice A3 l.l3.length c3):=(blk_cell BK1.out 3).trans rfl;have f4:w1.cell? ⟨g1,4,none⟩=some (.slice A4 l.l4.length c4):=(blk_cell BK1.out 4).trans rfl;have f5:w1.cell? ⟨g1,5,none⟩=some (.slice A5 l.l5.length c5):=(blk_cell BK1.out 5).trans rfl)|(go_at_call 56;go_must (refine(CheckLoft.call ⟨A1,c1,A2,c2,A3,c3,A4,c4,A5,c5⟩ l _ (HR.out.below HB.out)).mono ?_;clear f0 f1 f2 f3 f4 f5;rintro e wE ⟨rfl,hbe⟩;replace BK1:=Aside0.mk (blk_below BK1.out hbe);replace HB:=Aside0.mk (below_step HB.out hbe);clear hbe;have f0:wE.cell? ⟨g1,0,none⟩=some (.int .i64 l.a0):=(blk_cell BK1.out 0).trans rfl;have f1:wE.cell? ⟨g1,1,none⟩=some (.slice A1 l.l1.length c1):=(blk_cell BK1.out 1).trans rfl;have f2:wE.cell? ⟨g1,2,none⟩=some (.slice A2 l.l2.length c2):=(blk_cell BK1.out 2).trans rfl;have f3:wE.cell? ⟨g1,3,none⟩=some (.slice A3 l.l3.length c3):=(blk_cell BK1.out 3).trans rfl;have f4:wE.cell? ⟨g1,4,none⟩=some (.slice A4 l.l4.length c4):=(blk_cell BK1.out 4).trans rfl;have f5:wE.cell? ⟨g1,5,none⟩=some (.slice A5 l.l5.length c5):=(blk_cell BK1.out 5).trans rfl)))
  have hlt1:=blk_lt BK1.out
  obtain⟨g5,hg_⟩:∃g_,g_=wE.heap.size:=⟨_,rfl⟩
  obtain⟨w5,hw_⟩:∃w_,w_=World.alloc wE (Obj.cells #[.int .i64 l.a0,.slice A1 l.l1.length c1,.slice A2 l.l2.length c2,.slice A3 l.l3.length c3,.slice A4 l.l4.length c4,.slice A5 l.l5.length c5] 39):=⟨_,rfl⟩
  have hb_:Below wE.heap.size wE w5:=by rw [hw_];exact below_alloc (Below.refl _ _) _
  have BK5:Aside0 (w5.heap[g5]? =some (Obj.cells #[.int .i64 l.a0,.slice A1 l.l1.length c1,.slice A2 l.l2.length c2,.slice A3 l.l3.length c3,.slice A4 l.l4.length c4,.slice A5 l.l5.length c5] 39)):=⟨by rw [hw_,hg_];exact blk_new _ _⟩
  have g5GE:Aside0 (w.heap.size≤g5):=⟨by have:=below_size HB.out;rw [hg_];exact this⟩
  replace BK1:=Aside0.mk (blk_below BK1.out hb_)
  have g15_:g1≠g5:=by omega
  replace HB:=Aside0.mk (below_step HB.out hb_)
  rw [←hw_,←hg_]
  clear hw_ hg_ hb_
  clear f0 f1 f2 f3 f4 f5
  have G15:=Aside0.mk (show g1≠g5 from g15_)
  clear g15_
  have f15:w5.cell? ⟨g1,5,none⟩=some (.slice A5 l.l5.length c5):=(blk_cell BK1.out 5).trans rfl
  go_wp2_with fail
  clear f15
  go_loopw [16] (fun v16 wr=>∃(i m:Nat),v16= .int .i64 (i:Int)∧i≤l.l5.length∧m≤l.l5.length∧Aside0 (l.firstFrom (l.l5.length-i) i=l.firstFrom l.l5.length 0)∧Aside0 (wr.heap[g1]? =some (.cells #[.int .i64 l.a0,.slice A1 l.l1.length c1,.slice A2 l.l2.length c2,.slice A3 l.l3.length c3,.slice A4 l.l4.length c4,.slice A5 l.l5.length c5] 39 (0,0)))∧Aside0 (wr.heap[g5]? =some (.cells #[.int .i64 l.a0,.slice A1 l.l1.length c1,.slice A2 l.l2.length c2,.slice A3 l.l3.length c3,.slice A4 l.l4.length c4,.slice A5 m c5] 39 (0,0)))∧Aside0 (Below w.heap.size w wr)) (fun v16 _=>(l.l5.length-intOf v16).toNat)
  case atStart=>exact⟨0,l.l5.length,rfl,by omega,Nat.le_refl _,⟨rfl⟩,BK1,BK5,HB⟩
  case round=>
   clear BK1 BK5 HB
   obtain⟨i,m,rfl,hi,hm,HS,BK1,BK5,HB⟩:=hrel
   by_cases hlt:i < l.l5.length
   ·have f15:wr.cell? ⟨g1,5,none⟩=some (.slice A5 l.l5.length c5):=(blk_cell BK1.out 5).trans rfl
    have f55:wr.cell? ⟨g5,5,none⟩=some (.slice A5 m c5):=(blk_cell BK5.out 5).trans rfl
    have ff:=blk_frozen BK5.out 5
    obtain⟨ti,hti⟩:∃ti,Try.prog.info? 137=some ti:=Option.isSome_iff_exists.1 (by kernel_rfl)
    have hcut:=cut_to 37 137 .i64 Try.underlying37 hti A5 l.l5.length c5 ((i:Int)+1) (by omega) (by omega) h55c
    have htn:((i:Int)+1).toNat=i+1:=by omega
    rw [htn]at hcut
    have hwi:IntKind.i64.wrap ((i:Int)+1)=(i:Int)+1:=IntWalk.i64_in _ (by omega)
    have hltb:((i:Int) <(l.l5.length:Int)):=by omega
    clear hti htn
    go_upto_region 9 with(fail)
    obtain⟨ws,hws⟩:∃ws,ws=wr.setCell ⟨g5,5,none⟩ (.slice A5 (i+1) c5):=⟨_,rfl⟩
    have BK5s:ws.heap[g5]? =some (.cells #[.int .i64 l.a0,.slice A1 l.l1.length c1,.slice A2 l.l2.length c2,.slice A3 l.l3.length c3,.slice A4 l.l4.length c4,.slice A5 (i+1) c5] 39 (0,0)):=by rw [hws];exact blk_set BK5.out 5 _
    have BK1s:ws.heap[g1]? =some (.cells #[.int .i64 l.a0,.slice A1 l.l1.length c1,.slice A2 l.l2.length c2,.slice A3 l.l3.length c3,.slice A4 l.l4.length c4,.slice A5 l.l5.length c5] 39 (0,0)):=by rw [hws];exact blk_far BK1.out (show g1≠g5 from G15.out) _
    have hbs:Below w.heap.size w ws:=by rw [hws];exact below_set HB.out g5GE.out
    replace BK1:=Aside0.mk BK1s
    replace BK5:=Aside0.mk BK5s
    replace HB:=Aside0.mk hbs
    rw [←hws]
    clear hws BK1s BK5s hbs f15 f55 ff hcut
    have hl:(l.l5.take (i+1)).length=i+1:=by rw [List.length_take];omega
    obtain⟨pb,hpb⟩:∃pb,pb=(l.upTo (i+1)).possible []:=⟨_,rfl⟩
    have hrw:=HR.out.below HB.out
    have hcall:Calls Try.prog 86 #[.agg #[.int .i64 l.a0,.slice A1 l.l1.length c1,.slice A2 l.l2.length c2,.slice A3 l.l3.length c3,.slice A4 l.l4.length c4,.slice A5 (i+1) c5],.slice none 0 0] ws fun e w'=>e= .returned (.bool pb)∧Below ws.heap.size ws w':=by
     have h:=L_possible.calls ⟨A1,c1,A2,c2,A3,c3,A4,c4,A5,c5⟩ (l.upTo (i+1)) none 0 [] ws ⟨hrw.r1,hrw.r2,hrw.r3,hrw.r4,Kd.C_take hrw.r5 (by omega),hrw.h1,hrw.h2,hrw.h3,hrw.h4,by show(l.l5.take (i+1)).length≤c5;omega⟩ (HV.out.upTo _) (Kd.C_nil _ _) (by simp) (by simp)
     rw [←hpb]at h
     simp only [SA.cells,SL.upTo,hl,List.length_nil]at h
     exact h
    have HC:=Aside0.mk hcall
    have hstep:l.firstFrom l.l5.length 0=if pb=false then some (i:Int)else l.firstFrom (l.l5.length-(i+1)) (i+1):=by
     rw [←HS.out,hpb,show l.l5.length-i=(l.l5.length-(i+1))+1 by omega];rfl
    have HST:=Aside0.mk hstep
    have f0:ws.cell? ⟨g5,0,none⟩=some (.int .i64 l.a0):=(blk_cell BK5.out 0).trans rfl
    have f1:ws.cell? ⟨g5,1,none⟩=some (.slice A1 l.l1.length c1):=(blk_cell BK5.out 1).trans rfl
    have f2:ws.cell? ⟨g5,2,none⟩=some (.slice A2 l.l2.length c2):=(blk_cell BK5.out 2).trans rfl
    have f3:ws.cell? ⟨g5,3,none⟩=some (.slice A3 l.l3.length c3):=(blk_cell BK5.out 3).trans rfl
    have f4:ws.cell? ⟨g5,4,none⟩=some (.slice A4 l.l4.length c4):=(blk_cell BK5.out 4).trans rfl
    have f5:ws.cell? ⟨g5,5,none⟩=some (.slice A5 (i+1) c5):=(blk_cell BK5.out 5).trans rfl
    clear hl hpb hrw hcall hstep HS
    cases pb with
    |false=>
     have HE2:=Aside0.mk (show de=0 by rw [HDE.out,if_neg (by rw [HZ.out];simp),HST.out,if_pos rfl];simp)
     have HV2:=Aside0.mk (show dv=i by rw [HDV.out,if_pos HE2.out,HST.out,if_pos rfl];rfl)
     go_wp2_with (go_at_call 86;go_must (refine HC.out.mono ?_;clear f0 f1 f2 f3 f4 f5;rintro e wp ⟨rfl,hb⟩;replace HB:=Aside0.mk (below_step HB.out hb);clear hb))
     go_ret2
     exact⟨by rw [HV2.out,HE2.out];rfl,HB.out⟩
    |true=>
     go_wp2_with (go_at_call 86;go_must (refine HC.out.mono ?_;clear f0 f1 f2 f3 f4 f5;rintro e wp ⟨rfl,hb⟩;replace BK1:=Aside0.mk (blk_below BK1.out hb);replace BK5:=Aside0.mk (blk_below BK5.out hb);replace HB:=Aside0.mk (below_step HB.out hb);clear hb))
     exact⟨⟨i+1,i+1,by simp,by omega,by omega,⟨by rw [HST.out,if_neg (by simp)]⟩,BK1,BK5,HB⟩,by simp [intOf];omega⟩
   ·have hie:i=l.l5.length:=by omega
    have hnone:l.firstFrom l.l5.length 0=none:=by rw [←HS.out,hie,Nat.sub_self];rfl
    have HE2:=Aside0.mk (show de=7 by rw [HDE.out,if_neg (by rw [HZ.out];simp),if_pos hnone])
    have HV2:=Aside0.mk (show dv=0 by rw [HDV.out,HE2.out];rfl)
    clear hie hnone
    go_wp2
    go_ret2
    exact⟨by rw [HV2.out,HE2.out];rfl,HB.out⟩
 ·have hzb:(l.fault !=0)=true:=by rw [←HER.out];simpa using hz
  have HZ:=Aside0.mk hz
  have HE2:=Aside0.mk (show de=er by rw [HDE.out,if_pos hz])
  have HV2:=Aside0.mk (show dv=0 by rw [HDV.out,HE2.out,if_neg hz])
  clear hz
  go_wp2_with (first|((with_reducible refine gate_dst (N:=1) rfl ?_);refine box_event ?hg (N:=1) ?hd (cs:=#[.int .i64 l.a0,.slice A1 l.l1.length c1,.slice A2 l.l2.length c2,.slice A3 l.l3.length c3,.slice A4 l.l4.length c4,.slice A5 l.l5.length c5]) (t:=39) ?hr ?_;(case hd=>rfl);(case hg=>rfl);(case hr=>first|(go_simp;done)|(go_simp;rfl));intro g1 hg_ w1 hbx_ hb_;have BK1:=Aside0.mk hbx_;have g1ge:w.heap.size≤g1:=(by have:=below_size HB.out;omega);have g1GE:=Aside0.mk g1ge;clear g1ge;have HBn:=Aside0.mk (below_step HB.out hb_);clear HB hg_ hb_ hbx_;have HB:=HBn;clear HBn;have f0:w1.cell? ⟨g1,0,none⟩=some (.int .i64 l.a0):=(blk_cell BK1.out 0).trans rfl;have f1:w1.cell? ⟨g1,1,none⟩=some (.slice A1 l.l1.length c1):=(blk_cell BK1.out 1).trans rfl;have f2:w1.cell? ⟨g1,2,none⟩=some (.slice A2 l.l2.length c2):=(blk_cell BK1.out 2).trans rfl;have f3:w1.cell? ⟨g1,3,none⟩=some (.slice A3 l.l3.length c3):=(blk_cell BK1.out 3).trans rfl;have f4:w1.cell? ⟨g1,4,none⟩=some (.slice A4 l.l4.length c4):=(blk_cell BK1.out 4).trans rfl;have f5:w1.cell? ⟨g1,5,none⟩=some (.slice A5 l.l5.length c5):=(blk_cell BK1.out 5).trans rfl)|(go_at_call 56;go_must (refine(CheckLoft.call ⟨A1,c1,A2,c2,A3,c3,A4,c4,A5,c5⟩ l _ (HR.out.below HB.out)).mono ?_;clear f0 f1 f2 f3 f4 f5;rintro e wE ⟨rfl,hbe⟩;replace BK1:=Aside0.mk (blk_below BK1.out hbe);replace HB:=Aside0.mk (below_step HB.out hbe);clear hbe;have f0:wE.cell? ⟨g1,0,none⟩=some (.int .i64 l.a0):=(blk_cell BK1.out 0).trans rfl;have f1:wE.cell? ⟨g1,1,none⟩=some (.slice A1 l.l1.length c1):=(blk_cell BK1.out 1).trans rfl;have f2:wE.cell? ⟨g1,2,none⟩=some (.slice A2 l.l2.length c2):=(blk_cell BK1.out 2).trans rfl;have f3:wE.cell? ⟨g1,3,none⟩=some (.slice A3 l.l3.length c3):=(blk_cell BK1.out 3).trans rfl;have f4:wE.cell? ⟨g1,4,none⟩=some (.slice A4 l.l4.length c4):=(blk_cell BK1.out 4).trans rfl;have f5:wE.cell? ⟨g1,5,none⟩=some (.slice A5 l.l5.length c5):=(blk_cell BK1.out 5).trans rfl)))
  go_ret2
  exact⟨by rw [HV2.out,HE2.out,HER.out];rfl,HB.out⟩
end Go.Proofs.Ytjifalohjlihaaa.Q
end
