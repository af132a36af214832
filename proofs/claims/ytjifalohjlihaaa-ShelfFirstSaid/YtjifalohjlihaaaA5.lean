import Derived.Test.YtjifalohjlihaaaA4
import Derived.Laws.CopyOwn
import Derived.Laws.ResultCell
section
namespace Go.Proofs.Ytjifalohjlihaaa.Q
set_option linter.unusedVariables false
open Go.BigFrame Go.RowKit Go.Shelf Go.Proofs.YtjifalohjlihaaaW.PrintWords Go.Proofs.YtjifalohjlihaaaW.PrintLast Go.Proofs.YtjifalohjlihaaaW.PrintMore
def SL.fits (l : SL) (day : Int) (p : List Int) (s : Int) : Bool := decide (0 < (rd_T135 l.l2 s).f0 ∧ cnt p p.length s < (rd_T135 l.l2 s).f0 ∧ l.good p.length s ≤ day)
def SL.search (l : SL) (day : Int) : Nat → List Int → Option (List Int)
  | 0, p => some p
  | k + 1, p => (List.range l.l2.length).findSome? fun (s : Nat) => if l.fits day p (s : Int) then l.search day k (p ++ [(s : Int)]) else none
theorem cnt_mono (p : List Int) (s : Int) : ∀ (i j : Nat), i ≤ j → cnt p (i : Int) s ≤ cnt p (j : Int) s := by
  intro i j h
  unfold cnt
  rw [Int.toNat_natCast, Int.toNat_natCast]
  exact Int.ofNat_le.2 (List.Sublist.count_le s (List.Sublist.trans (by rw [show p.take i = (p.take j).take i by rw [List.take_take, Nat.min_eq_left h]]; exact List.take_sublist _ _) (List.Sublist.refl _)))
theorem cnt_under {p : List Int} {s ro : Int} (h0 : 0 < ro) : ∀ n : Nat, n ≤ p.length → (∀ i : Nat, 1 ≤ i → i ≤ n → cnt p (i : Int) s ≠ ro) → cnt p (n : Int) s < ro := by
  intro n
  induction n with
  | zero => intro _ _; rw [show ((0 : Nat) : Int) = 0 from rfl, cnt_zero]; exact h0
  | succ n ih =>
    intro hn h
    have h1 := ih (by omega) (fun i a b => h i a (by omega))
    have h2 := h (n + 1) (by omega) (Nat.le_refl _)
    have h3 := cnt_step (place := p) (i := (n : Int)) (by omega) (by omega) s
    rw [show ((n + 1 : Nat) : Int) = (n : Int) + 1 by omega] at h2 ⊢
    rw [h3] at h2 ⊢
    split at h2 <;> split <;> omega
theorem lit_row {w : World} {g : Nat} {v : Int} (h : w.heap[g]? = some (.cells #[.int .i64 v] 3 (0, 0))) : Kd.C (Kd.int .i64) w (some ⟨g, 0, none⟩) 1 [v] := by
  refine ⟨rfl, by simp, fun _ => ⟨⟨g, 0, none⟩, rfl, fun j q hq => ?_⟩⟩
  have hj : j = 0 := by
    have := (List.getElem?_eq_some_iff.1 hq).1
    simpa using this
  subst hj
  obtain rfl : v = q := by simpa using hq
  refine ⟨[.int .i64 v], rfl, rfl, fun i u hu => ?_⟩
  have hi : i = 0 := by
    have := (List.getElem?_eq_some_iff.1 hu).1
    simpa using this
  subst hi
  obtain rfl : Value.int .i64 v = u := by simpa using hu
  exact (blk_cell h 0).trans rfl
structure PutS (w0 X : World) (x : SA) (l : SL) (gW gM : Nat) (A7 : Option Addr) (c7 : Nat) (gw gf gd gp : Nat) (day : Int) : Prop where
  job : Job w0 X x l gW gM A7 c7
  memo : l.Days X gM
  bw : X.heap[gw]? = some (.cells #[.pointer (some ⟨gW, 0, none⟩)] 120 (0, 0))
  bd : X.heap[gd]? = some (.cells #[.int .i64 day] 3 (0, 0))
  bp : X.heap[gp]? = some (.cells #[.func (.func 132) #[] #[.pointer (some ⟨gw, 0, none⟩), .pointer (some ⟨gf, 0, none⟩), .pointer (some ⟨gd, 0, none⟩), .pointer (some ⟨gp, 0, none⟩)]] 123 (0, 0))
  bf : ∃ fv : Option Addr × Nat × Nat, X.heap[gf]? = some (.cells #[.slice fv.1 fv.2.1 fv.2.2] 25 (0, 0))
  gfge : w0.heap.size ≤ gf
  n7f : ∀ a, A7 = some a → a.block ≠ gf
abbrev okP (gM gf : Nat) (k : Nat) : Prop := k ≠ gM ∧ k ≠ gf
theorem PutS.below {w0 X Y : World} {x : SA} {l : SL} {gW gM : Nat} {A7 : Option Addr} {c7 gw gf gd gp : Nat} {day : Int} (h : PutS w0 X x l gW gM A7 c7 gw gf gd gp day) (hb : Below X.heap.size X Y) : PutS w0 Y x l gW gM A7 c7 gw gf gd gp day :=
  ⟨h.job.below hb, h.memo.keep (hb.block gM h.memo.lt), blk_below h.bw hb, blk_below h.bd hb, blk_below h.bp hb, by obtain ⟨fv, hf⟩ := h.bf; exact ⟨fv, blk_below hf hb⟩, h.gfge, h.n7f⟩
theorem memo_ne {X : World} {gM g : Nat} {f : Int → Int → Int} {cs : Array Value} {t : TypeId} (h : Memo X gM f) (hb : X.heap[g]? = some (.cells cs t (0, 0))) : g ≠ gM := by
  rintro rfl
  obtain ⟨n, D, ⟨es, ck, h, _⟩, _⟩ := h
  rw [h] at hb; cases hb
theorem PutS.turnM {w0 X Y : World} {x : SA} {l : SL} {gW gM : Nat} {A7 : Option Addr} {c7 gw gf gd gp : Nat} {day : Int} (h : PutS w0 X x l gW gM A7 c7 gw gf gd gp day) (ht : Turn (fun k => k = gM) X Y) (hm : l.Days Y gM) : PutS w0 Y x l gW gM A7 c7 gw gf gd gp day :=
  ⟨h.job.turn ht, hm, ht.blk h.bw (memo_ne h.memo h.bw), ht.blk h.bd (memo_ne h.memo h.bd), ht.blk h.bp (memo_ne h.memo h.bp), by obtain ⟨fv, hf⟩ := h.bf; exact ⟨fv, ht.blk hf (memo_ne h.memo hf)⟩, h.gfge, h.n7f⟩
theorem Job.turnO {w0 X Y : World} {x : SA} {l : SL} {gW gM : Nat} {A7 : Option Addr} {c7 : Nat} {Own : Nat → Prop} (h : Job w0 X x l gW gM A7 c7) (ht : Turn Own X Y) (ho : ∀ k, Own k → w0.heap.size ≤ k) (nW : ¬ Own gW) (n7 : ∀ a, A7 = some a → ¬ Own a.block) : Job w0 Y x l gW gM A7 c7 := by
  have hb : Below w0.heap.size w0 Y := Turn.below h.bel ht ho h.bel.size
  refine ⟨hb, h.rd0, ⟨ht.blk h.work.bW nW, ?_, h.work.h7, h.rd0.below hb⟩, h.gWge, h.gMge, h.neW, h.ne7⟩
  by_cases hn : 0 < l.truths.length
  · obtain ⟨a, e, hj⟩ := h.work.tr.2.2 hn
    refine C_block (fun _ _ _ _ h => h) h.work.tr (fun b e' => ?_)
    obtain rfl : a = b := by rw [e] at e'; exact Option.some.inj e'
    obtain ⟨c, hl, hK, hi⟩ := hj 0 _ (List.getElem?_eq_getElem hn)
    have hc : c ≠ [] := by intro hc; rw [hc] at hl; cases hl
    obtain ⟨u, t, rfl⟩ : ∃ u t, c = u :: t := by cases c with | nil => exact absurd rfl hc | cons u t => exact ⟨u, t, rfl⟩
    have h0 := World.block_lt_of_cell? _ _ (hi 0 u rfl)
    rw [add_block] at h0
    exact ht.block _ h0 (n7 a e)
  · refine ⟨h.work.tr.1, h.work.tr.2.1, fun hh => absurd hh hn⟩
theorem PutS.turn2 {w0 X Y : World} {x : SA} {l : SL} {gW gM : Nat} {A7 : Option Addr} {c7 gw gf gd gp : Nat} {day : Int} (h : PutS w0 X x l gW gM A7 c7 gw gf gd gp day) (ht : Turn (fun k => k = gM ∨ k = gf) X Y) (hm : l.Days Y gM) (hf : ∃ fv : Option Addr × Nat × Nat, Y.heap[gf]? = some (.cells #[.slice fv.1 fv.2.1 fv.2.2] 25 (0, 0))) : PutS w0 Y x l gW gM A7 c7 gw gf gd gp day := by
  obtain ⟨fv, hbf⟩ := h.bf
  have o : ∀ {g : Nat} {cs : Array Value} {t : TypeId}, X.heap[g]? = some (.cells cs t (0, 0)) → t ≠ 25 → ¬ (g = gM ∨ g = gf) := fun hb ht' hh => by
    rcases hh with hh | hh
    · exact memo_ne h.memo hb hh
    · exact blk_ne hb hbf ht' hh
  exact ⟨h.job.turnO ht (fun k hk => hk.elim (fun e => by rw [e]; exact h.job.gMge) (fun e => by rw [e]; exact h.gfge)) (o h.job.work.bW (by decide)) (fun a e hh => hh.elim (h.job.ne7 a e) (h.n7f a e)),
    hm, ht.blk h.bw (o h.bw (by decide)), ht.blk h.bd (o h.bd (by decide)), ht.blk h.bp (o h.bp (by decide)), hf, h.gfge, h.n7f⟩
def PutOut (w0 : World) (x : SA) (l : SL) (gW gM : Nat) (A7 : Option Addr) (c7 : Nat) (gw gf gd gp : Nat) (day : Int) (r : Option (List Int)) (X : World) (e : Ending) (Y : World) : Prop :=
  e = .returned (.bool r.isSome) ∧ PutS w0 Y x l gW gM A7 c7 gw gf gd gp day ∧ Turn (fun k => k = gM ∨ k = gf) X Y ∧
    ∀ q, r = some q → ∃ fv, Y.heap[gf]? = some (.cells #[fv] 25 (0, 0)) ∧ Kd.R (Kd.int .i64) 3 Y w0.heap.size (okP gM gf) fv q
set_option maxRecDepth 100000 in
set_option maxHeartbeats 6400000 in
theorem put_calls (x : SA) (l : SL) (gW gM : Nat) (A7 : Option Addr) (c7 : Nat) (gw gf gd gp : Nat) (day : Int) (w0 : World) (hf : l.fault = 0) :
    ∀ (k : Nat) (p : List Int) (pv : Value) (w : World), p.length + k = l.l3.length → PutS w0 w x l gW gM A7 c7 gw gf gd gp day → Kd.R (Kd.int .i64) 3 w w0.heap.size (okP gM gf) pv p →
      Calls Try.prog 132 #[pv, .pointer (some ⟨gw, 0, none⟩), .pointer (some ⟨gf, 0, none⟩), .pointer (some ⟨gd, 0, none⟩), .pointer (some ⟨gp, 0, none⟩)] w (PutOut w0 x l gW gM A7 c7 gw gf gd gp day (l.search day k p) w) := by
  obtain ⟨A1, c1, A2, c2, A3, c3, A4, c4, A5, c5⟩ := x
  intro k
  induction k with
  | zero =>
    intro p pv w hk hS hR
    have HS := Aside0.mk hS
    have HR := Aside0.mk hR
    have HF := Aside0.mk hf
    obtain ⟨Ap, cp, hpv, hlp, hC⟩ := Kd.R_reads hR
    obtain ⟨fv0, hfv⟩ := hS.bf
    have BF := Aside0.mk hfv
    have hlen : p.length = l.l3.length := by omega
    have hlb : ((p.length : Int) == (l.l3.length : Int)) = true := by rw [hlen]; simp
    have HLE := Aside0.mk hlen
    subst hpv
    clear hS hR hlp hC hfv hk hlen
    have fw : w.cell? ⟨gw, 0, none⟩ = some (.pointer (some ⟨gW, 0, none⟩)) := (blk_cell HS.out.bw 0).trans rfl
    have f3 : w.cell? ⟨gW, 3, none⟩ = some (.slice A3 l.l3.length c3) := (blk_cell HS.out.job.work.bW 3).trans rfl
    have ff : w.cell? ⟨gf, 0, none⟩ = some (.slice fv0.1 fv0.2.1 fv0.2.2) := (blk_cell BF.out 0).trans rfl
    have fz := blk_frozen BF.out 0
    go_enter Try.func132, Try.ntmps132
    go_wp2
    go_step3
    go_wp2
    rw [Exit.noGoto_ret]
    go_ret
    have ht : Turn (fun k => k = gM ∨ k = gf) w (w.setCell ⟨gf, 0, none⟩ (.slice Ap p.length cp)) := Turn.set (a := ⟨gf, 0, none⟩) (.inr rfl) _
    have hmf : gM ≠ gf := fun e => memo_ne HS.out.memo BF.out e.symm
    refine ⟨rfl, HS.out.turn2 ht (HS.out.memo.keep (Below.heap_setCell w _ _ gM hmf)) ⟨(Ap, p.length, cp), blk_set BF.out 0 _⟩, ht, fun q hq => ?_⟩
    obtain rfl : p = q := Option.some.inj hq
    exact ⟨_, blk_set BF.out 0 _, Kd.R_far HR.out (fun k hk => hk.2) _⟩
  | succ k ih =>
    intro p pv w hk hS hR
    have HS := Aside0.mk hS
    have HR := Aside0.mk hR
    have HF := Aside0.mk hf
    have IH := Aside0.mk ih
    have hv := valid_of hf
    have hs3 := hv.shelf3
    have hc5 := hv.cake5
    obtain ⟨Ap, cp, hpv, hlp, hC⟩ := Kd.R_reads hR
    have hlb : ((p.length : Int) == (l.l3.length : Int)) = false := by rw [beq_eq_false_iff_ne]; omega
    have hpl : p.length < l.l3.length := by omega
    have HK := Aside0.mk hk
    subst hpv
    clear hS hR hlp hC hk ih hv
    have fw : w.cell? ⟨gw, 0, none⟩ = some (.pointer (some ⟨gW, 0, none⟩)) := (blk_cell HS.out.bw 0).trans rfl
    have f3 : w.cell? ⟨gW, 3, none⟩ = some (.slice A3 l.l3.length c3) := (blk_cell HS.out.job.work.bW 3).trans rfl
    have f2 : w.cell? ⟨gW, 2, none⟩ = some (.slice A2 l.l2.length c2) := (blk_cell HS.out.job.work.bW 2).trans rfl
    obtain ⟨F, hF⟩ : ∃ F : Nat → Option (List Int), F = fun (s : Nat) => if l.fits day p (s : Int) then l.search day k (p ++ [(s : Int)]) else none := ⟨_, rfl⟩
    have hsr : l.search day (k + 1) p = (List.range l.l2.length).findSome? F := by rw [hF]; rfl
    rw [hsr]
    obtain ⟨r, hr⟩ : ∃ r, r = (List.range l.l2.length).findSome? F := ⟨_, rfl⟩
    rw [← hr]
    have HFE := Aside0.mk hF
    have HRE := Aside0.mk hr
    have HT := Aside0.mk (Turn.refl (fun k => k = gM ∨ k = gf) w)
    clear hF hsr hr
    go_enter Try.func132, Try.ntmps132
    go_wp2
    go_step3
    go_wp2
    go_step3
    go_wp2
    clear fw f3 f2
    go_loopw [28] (fun v28 wr => ∃ s : Nat, v28 = .int .i64 (s : Int) ∧ s ≤ l.l2.length ∧ Aside0 (((List.range l.l2.length).drop s).findSome? F = r) ∧ Aside0 (PutS w0 wr ⟨A1, c1, A2, c2, A3, c3, A4, c4, A5, c5⟩ l gW gM A7 c7 gw gf gd gp day) ∧ Aside0 (Kd.R (Kd.int .i64) 3 wr w0.heap.size (okP gM gf) (.slice Ap p.length cp) p) ∧ Aside0 (Turn (fun k => k = gM ∨ k = gf) w wr)) (fun v28 _ => (l.l2.length - intOf v28).toNat)
    case atStart => exact ⟨0, rfl, Nat.zero_le _, ⟨by rw [HRE.out]; rfl⟩, HS, HR, HT⟩
    case round =>
      clear HS HR HT
      obtain ⟨s, rfl, hs, HE, HS, HR, HT⟩ := hrel
      by_cases hlt : s < l.l2.length
      · obtain ⟨ad2, e2, fb0, fb1⟩ := at_T135 HS.out.job.work.rd.r2 (s : Int) (by omega) (by omega)
        simp only at e2
        subst e2
        simp only [Int.toNat_natCast] at fb0 fb1
        have hsh := (valid_of HF.out).shelves (s : Int) (by omega) (by omega)
        obtain ⟨ro, hro⟩ : ∃ ro, ro = (rd_T135 l.l2 (s : Int)).f0 := ⟨_, rfl⟩
        obtain ⟨dr, hdr⟩ : ∃ dr, dr = (rd_T135 l.l2 (s : Int)).f1 := ⟨_, rfl⟩
        rw [← hro] at fb0 hsh
        rw [← hdr] at fb1
        obtain ⟨ro0, ro5, _⟩ := hsh
        have HRO := Aside0.mk hro
        have hstep : r = (F s).or (((List.range l.l2.length).drop (s + 1)).findSome? F) := by
          rw [← HE.out, List.drop_eq_getElem_cons (by simpa using hlt), List.findSome?_cons]
          simp only [List.getElem_range]
          cases F s <;> rfl
        have HST := Aside0.mk hstep
        have HB := Aside0.mk HS.out.job.bel
        have hlti : (s : Int) < (l.l2.length : Int) := by omega
        clear hro hdr hstep HE
        go_upto_region 7 with (fail)
        obtain ⟨g8, hg_⟩ : ∃ g_, g_ = wr.heap.size := ⟨_, rfl⟩
        obtain ⟨w8, hw_⟩ : ∃ w_, w_ = World.alloc wr (Obj.cells #[.int .i64 ro, .int .i64 dr] 135) := ⟨_, rfl⟩
        have hb_ : Below wr.heap.size wr w8 := by rw [hw_]; exact below_alloc (Below.refl _ _) _
        have BK8 : Aside0 (w8.heap[g8]? = some (Obj.cells #[.int .i64 ro, .int .i64 dr] 135)) := ⟨by rw [hw_, hg_]; exact blk_new _ _⟩
        have g8GE : Aside0 (w0.heap.size ≤ g8) := ⟨by have := below_size HB.out; rw [hg_]; exact this⟩
        replace HS := Aside0.mk (HS.out.below hb_)
        replace HR := Aside0.mk (Kd.R_below HR.out hb_)
        replace HT := Aside0.mk (HT.out.trans (Turn.of_below hb_))
        replace HB := Aside0.mk (below_step HB.out hb_)
        rw [← hw_, ← hg_]
        clear hw_ hg_ hb_
        clear fb0 fb1
        go_wp2_with fail
        have f80 : w8.cell? ⟨g8, 0, none⟩ = some (.int .i64 ro) := (blk_cell BK8.out 0).trans rfl
        go_loop [9, 35] (fun v9 v35 => ∃ j : Nat, v9 = .int .i64 (cnt p (j : Int) (s : Int)) ∧ v35 = .int .i64 (j : Int) ∧ j ≤ p.length ∧ Aside0 (∀ i : Nat, 1 ≤ i → i ≤ j → cnt p (i : Int) (s : Int) ≠ ro)) (fun _ v35 => (p.length - intOf v35).toNat)
        case atStart => exact ⟨0, by rw [show ((0 : Nat) : Int) = 0 from rfl, cnt_zero], rfl, Nat.zero_le _, ⟨fun i h1 h2 => by omega⟩⟩
        case round =>
          obtain ⟨j, rfl, rfl, hj, HC⟩ := hrel
          by_cases hjl : j < p.length
          · obtain ⟨adp, ep, fp⟩ := rowB (Kd.R_reads' HR.out).2.2 (j : Int) (by omega) (by omega)
            subst ep
            rw [Int.toNat_natCast] at fp
            have hcs := cnt_step (place := p) (i := (j : Int)) (by omega) (by omega) (s : Int)
            have hc0 := cnt_nonneg p (j : Int) (s : Int)
            have hc1 := cnt_le p (j : Int) (s : Int) (by omega)
            have hmo := cnt_mono p (s : Int) (j + 1) p.length (by omega)
            obtain ⟨m, hm⟩ : ∃ m, m = cnt p (j : Int) (s : Int) := ⟨_, rfl⟩
            obtain ⟨pj, hpj⟩ : ∃ pj, pj = rd p (j : Int) := ⟨_, rfl⟩
            rw [← hm, ← hpj] at hcs
            rw [← hm] at hc0 hc1
            rw [← hpj] at fp
            rw [← hm]
            have HCS := Aside0.mk hcs
            have HMO := Aside0.mk hmo
            have HM := Aside0.mk hm
            clear hcs hmo hm hpj
            have hjli : (j : Int) < (p.length : Int) := by omega
            have hwm : IntKind.i64.wrap (m + 1) = m + 1 := IntWalk.i64_in _ (by omega)
            have hws : IntKind.i64.wrap ((s : Int) + 1) = (s : Int) + 1 := IntWalk.i64_in _ (by omega)
            have hwj : IntKind.i64.wrap ((j : Int) + 1) = (j : Int) + 1 := IntWalk.i64_in _ (by omega)
            by_cases hps : pj = (s : Int)
            · have hpsb : (pj == (s : Int)) = true := by rw [beq_iff_eq]; exact hps
              have HC1 := Aside0.mk (show cnt p ((j : Int) + 1) (s : Int) = m + 1 by rw [HCS.out, if_pos hps])
              clear hps
              by_cases hmr : m + 1 = ro
              · have hmrb : (m + 1 == ro) = true := by rw [beq_iff_eq]; exact hmr
                have HMR := Aside0.mk hmr
                clear hmr
                go_wp2
                have hFn : F s = none := by
                  rw [HFE.out]
                  refine if_neg ?_
                  unfold SL.fits
                  rw [← HRO.out, decide_eq_true_eq]
                  rintro ⟨_, h2, _⟩
                  have h3 := HMO.out
                  have h4 := HC1.out
                  have h5 := HMR.out
                  rw [show ((j + 1 : Nat) : Int) = (j : Int) + 1 by omega, h4] at h3
                  omega
                exact ⟨⟨s + 1, by simp, by omega, ⟨by rw [HST.out, hFn]; rfl⟩, HS, HR, HT⟩, by simp [intOf]; omega⟩
              · have hmrb : (m + 1 == ro) = false := by rw [beq_eq_false_iff_ne]; exact hmr
                have HMR := Aside0.mk hmr
                clear hmr
                go_wp2
                have hcast : ((j + 1 : Nat) : Int) = (j : Int) + 1 := by omega
                refine ⟨⟨j + 1, by rw [hcast, HC1.out], by rw [hcast], by omega, ⟨fun i h1 h2 => ?_⟩⟩, by simp [intOf]; omega⟩
                by_cases hij : i ≤ j
                · exact HC.out i h1 hij
                · obtain rfl : i = j + 1 := by omega
                  rw [hcast, HC1.out]; exact HMR.out
            · have hpsb : (pj == (s : Int)) = false := by rw [beq_eq_false_iff_ne]; exact hps
              have HC1 := Aside0.mk (show cnt p ((j : Int) + 1) (s : Int) = m by rw [HCS.out, if_neg hps]; omega)
              clear hps
              by_cases hmr : m = ro
              · have hmrb : (m == ro) = true := by rw [beq_iff_eq]; exact hmr
                have HMR := Aside0.mk hmr
                clear hmr
                go_wp2
                have hFn : F s = none := by
                  rw [HFE.out]
                  refine if_neg ?_
                  unfold SL.fits
                  rw [← HRO.out, decide_eq_true_eq]
                  rintro ⟨_, h2, _⟩
                  have h3 := HMO.out
                  have h4 := HC1.out
                  have h5 := HMR.out
                  rw [show ((j + 1 : Nat) : Int) = (j : Int) + 1 by omega, h4] at h3
                  omega
                exact ⟨⟨s + 1, by simp, by omega, ⟨by rw [HST.out, hFn]; rfl⟩, HS, HR, HT⟩, by simp [intOf]; omega⟩
              · have hmrb : (m == ro) = false := by rw [beq_eq_false_iff_ne]; exact hmr
                have HMR := Aside0.mk hmr
                clear hmr
                go_wp2
                have hcast : ((j + 1 : Nat) : Int) = (j : Int) + 1 := by omega
                refine ⟨⟨j + 1, by rw [hcast, HC1.out], by rw [hcast], by omega, ⟨fun i h1 h2 => ?_⟩⟩, by simp [intOf]; omega⟩
                by_cases hij : i ≤ j
                · exact HC.out i h1 hij
                · obtain rfl : i = j + 1 := by omega
                  rw [hcast, HC1.out]; exact HMR.out
          · have hje : j = p.length := by omega
            subst hje
            have hjli : (p.length : Int) ≤ (p.length : Int) := Int.le_refl _
            have hws : IntKind.i64.wrap ((s : Int) + 1) = (s : Int) + 1 := IntWalk.i64_in _ (by omega)
            go_wp2_with fail
            replace BK8 := Aside0.mk (blk_drew BK8.out)
            by_cases hro : 0 < ro
            · have hrob : decide (0 < ro) = true := decide_eq_true hro
              have hun := cnt_under hro p.length (Nat.le_refl _) HC.out
              have HUN := Aside0.mk hun
              have HSPOT := Aside0.mk (⟨by omega, by omega, by omega, by omega⟩ : Spot l (p.length : Int) (s : Int))
              obtain ⟨gd_, hgd⟩ : ∃ g, g = l.good (p.length : Int) (s : Int) := ⟨_, rfl⟩
              have HGD := Aside0.mk hgd
              have HRP := Aside0.mk hro
              have hbd_ := below_drew1 (Below.refl w8.heap.size w8)
              replace HS := Aside0.mk (HS.out.below hbd_)
              replace HR := Aside0.mk (Kd.R_below HR.out hbd_)
              replace HT := Aside0.mk (HT.out.trans (Turn.of_below hbd_))
              clear hro hun hgd hbd_ f80
              by_cases hle : gd_ ≤ day
              · have hleb : decide (gd_ ≤ day) = true := decide_eq_true hle
                obtain ⟨r2, hr2⟩ : ∃ r2, r2 = l.search day k (p ++ [(s : Int)]) := ⟨_, rfl⟩
                have HR2 := Aside0.mk hr2
                have hFs : F s = r2 := by
                  rw [HFE.out, hr2]
                  refine if_pos ?_
                  unfold SL.fits
                  rw [← HGD.out, ← HRO.out, decide_eq_true_eq]
                  exact ⟨HRP.out, HUN.out, hle⟩
                have HFS := Aside0.mk hFs
                clear hle hr2 hFs
                cases r2 with
                | none =>
                  refine start_ (n := 22) (S := fun w' => w'.cell? ⟨g8, 0, none⟩ = some (.int .i64 ro) ∧ w'.cell? ⟨gw, 0, none⟩ = some (.pointer (some ⟨gW, 0, none⟩)) ∧ w'.cell? ⟨gd, 0, none⟩ = some (.int .i64 day) ∧ w'.cell? ⟨gp, 0, none⟩ = some (.func (.func 132) #[] #[.pointer (some ⟨gw, 0, none⟩), .pointer (some ⟨gf, 0, none⟩), .pointer (some ⟨gd, 0, none⟩), .pointer (some ⟨gp, 0, none⟩)])) (ds := []) #[false, false, false, false, false, false, false, false, false, false, false, false, false, false, false, false, false, false, false, false, false, false] (by kernel_rfl) rfl rfl ⟨(blk_cell BK8.out 0).trans rfl, (blk_cell HS.out.bw 0).trans rfl, (blk_cell HS.out.bd 0).trans rfl, (blk_cell HS.out.bp 0).trans rfl⟩ (fun hHeld => ?_)
                  generalize w8.drew = wd at BK8 HS HR HT hHeld ⊢
                  refine pure_ (i := 0) (N := some 49) (v := ?_) (a' := ?_) #[true, false, false, false, false, false, false, false, false, false, false, false, false, false, false, false, false, false, false, false, false, false] rfl rfl (by kernel_rfl) (fun _ _ _ h => h) (Or.inl ⟨by rfl, ?_⟩) ?_ ?_
                  rotate_left
                  · intro w'
                    go_simp
                    with_reducible rfl
                  rotate_left
                  · simp only [Act.put, List.setIfInBounds_toArray, List.set_cons_zero, List.set_cons_succ]; rfl
                  refine take_ (i := 1) (N := some 50) (v := ?_) (a' := ?_) #[true, true, false, false, false, false, false, false, false, false, false, false, false, false, false, false, false, false, false, false, false, false] rfl rfl (by kernel_rfl) (fun _ _ _ h => h) (Or.inl ⟨by rfl, ?_⟩) hHeld ?_ ?_
                  rotate_left
                  · rintro w' ⟨s0, s1, s2, s3⟩
                    go_simp
                    with_reducible rfl
                  rotate_left
                  · simp only [Act.put, List.setIfInBounds_toArray, List.set_cons_zero, List.set_cons_succ]; rfl
                  refine pure_ (i := 2) (N := some 51) (v := ?_) (a' := ?_) #[true, true, true, false, false, false, false, false, false, false, false, false, false, false, false, false, false, false, false, false, false, false] rfl rfl (by kernel_rfl) (fun _ _ _ h => h) (Or.inl ⟨by rfl, ?_⟩) ?_ ?_
                  rotate_left
                  · intro w'
                    go_simp
                    with_reducible rfl
                  rotate_left
                  · simp only [Act.put, List.setIfInBounds_toArray, List.set_cons_zero, List.set_cons_succ]; rfl
                  refine pure_ (i := 3) (N := some 52) (v := ?_) (a' := ?_) #[true, true, true, true, false, false, false, false, false, false, false, false, false, false, false, false, false, false, false, false, false, false] rfl rfl (by kernel_rfl) (fun _ _ _ h => h) (Or.inl ⟨by rfl, ?_⟩) ?_ ?_
                  rotate_left
                  · intro w'
                    go_simp
                    with_reducible rfl
                  rotate_left
                  · simp only [Act.put, List.setIfInBounds_toArray, List.set_cons_zero, List.set_cons_succ]; rfl
                  refine take_ (i := 4) (N := some 53) (v := ?_) (a' := ?_) #[true, true, true, true, true, false, false, false, false, false, false, false, false, false, false, false, false, false, false, false, false, false] rfl rfl (by kernel_rfl) (fun _ _ _ h => h) (Or.inl ⟨by rfl, ?_⟩) hHeld ?_ ?_
                  rotate_left
                  · rintro w' ⟨s0, s1, s2, s3⟩
                    go_simp
                    with_reducible rfl
                  rotate_left
                  · simp only [Act.put, List.setIfInBounds_toArray, List.set_cons_zero, List.set_cons_succ]; rfl
                  refine pure_ (i := 5) (N := some 54) (v := ?_) (a' := ?_) #[true, true, true, true, true, true, false, false, false, false, false, false, false, false, false, false, false, false, false, false, false, false] rfl rfl (by kernel_rfl) (fun _ _ _ h => h) (Or.inl ⟨by rfl, ?_⟩) ?_ ?_
                  rotate_left
                  · intro w'
                    go_simp
                    with_reducible rfl
                  rotate_left
                  · simp only [Act.put, List.setIfInBounds_toArray, List.set_cons_zero, List.set_cons_succ]; rfl
                  refine pure_ (i := 6) (N := some 55) (v := ?_) (a' := ?_) #[true, true, true, true, true, true, true, false, false, false, false, false, false, false, false, false, false, false, false, false, false, false] rfl rfl (by kernel_rfl) (fun _ _ _ h => h) (Or.inl ⟨by rfl, ?_⟩) ?_ ?_
                  rotate_left
                  · intro w'
                    go_simp
                    with_reducible rfl
                  rotate_left
                  · simp only [Act.put, List.setIfInBounds_toArray, List.set_cons_zero, List.set_cons_succ]; rfl
                  refine pure_ (i := 7) (N := some 56) (v := ?_) (a' := ?_) #[true, true, true, true, true, true, true, true, false, false, false, false, false, false, false, false, false, false, false, false, false, false] rfl rfl (by kernel_rfl) (fun _ _ _ h => h) (Or.inl ⟨by rfl, ?_⟩) ?_ ?_
                  rotate_left
                  · intro w'
                    go_simp
                    with_reducible rfl
                  rotate_left
                  · simp only [Act.put, List.setIfInBounds_toArray, List.set_cons_zero, List.set_cons_succ]; rfl
                  refine pure_ (i := 8) (N := some 57) (v := ?_) (a' := ?_) #[true, true, true, true, true, true, true, true, true, false, false, false, false, false, false, false, false, false, false, false, false, false] rfl rfl (by kernel_rfl) (fun _ _ _ h => h) (Or.inl ⟨by rfl, ?_⟩) ?_ ?_
                  rotate_left
                  · intro w'
                    go_simp
                    with_reducible rfl
                  rotate_left
                  · simp only [Act.put, List.setIfInBounds_toArray, List.set_cons_zero, List.set_cons_succ]; rfl
                  refine take_ (i := 10) (N := some 59) (v := ?_) (a' := ?_) #[true, true, true, true, true, true, true, true, true, false, true, false, false, false, false, false, false, false, false, false, false, false] rfl rfl (by kernel_rfl) (fun _ _ _ h => h) (Or.inl ⟨by rfl, ?_⟩) hHeld ?_ ?_
                  rotate_left
                  · rintro w' ⟨s0, s1, s2, s3⟩
                    go_simp
                    with_reducible rfl
                  rotate_left
                  · simp only [Act.put, List.setIfInBounds_toArray, List.set_cons_zero, List.set_cons_succ]; rfl
                  refine one_ (i := 9) (N := some 58) #[true, true, true, true, true, true, true, true, true, true, true, false, false, false, false, false, false, false, false, false, false, false] rfl rfl (by kernel_rfl) (by decide) (fun K hK => ?_)
                  refine goes_ Try.func85 (by kernel_rfl) rfl #[.pointer (some ⟨gW, 0, none⟩), .agg #[.int .i64 (p.length : Int), .int .i64 (s : Int)]] (by rfl) rfl rfl (by (try simp only [List.map_toArray, List.map_cons, List.map_nil]); rfl) ?_
                  refine (good.calls ⟨A1, c1, some ad2, c2, A3, c3, A4, c4, A5, c5⟩ l gW gM A7 c7 (p.length : Int) (s : Int) w0 wd HS.out.job HS.out.memo HF.out HSPOT.out).mono ?_
                  rintro e wl ⟨rfl, hj, hm, ht⟩
                  refine ⟨_, rfl, ?_⟩
                  have hne8 := memo_ne HS.out.memo BK8.out
                  replace BK8 := Aside0.mk (ht.blk BK8.out hne8)
                  replace HS := Aside0.mk (HS.out.turnM ht hm)
                  replace HR := Aside0.mk (Kd.R_step HR.out (fun k hk hlt => ht.block k hlt hk.1))
                  replace HT := Aside0.mk (HT.out.trans (ht.mono (fun k hk => .inl hk)))
                  clear hj hm ht hne8
                  rw [← HGD.out]
                  refine hK.out _ _ ⟨(blk_cell BK8.out 0).trans rfl, (blk_cell HS.out.bw 0).trans rfl, (blk_cell HS.out.bd 0).trans rfl, (blk_cell HS.out.bp 0).trans rfl⟩ (fun hHeld => ?_)
                  clear hK K
                  refine norm_ (a' := ?_) ?_ ?_
                  rotate_left
                  · show Act.put _ (some 58) _ = _; simp only [Act.put, List.setIfInBounds_toArray, List.set_cons_zero, List.set_cons_succ]; rfl
                  refine pure_ (i := 11) (N := some 60) (v := ?_) (a' := ?_) #[true, true, true, true, true, true, true, true, true, true, true, true, false, false, false, false, false, false, false, false, false, false] rfl rfl (by kernel_rfl) (fun _ _ _ h => h) (Or.inl ⟨by rfl, ?_⟩) ?_ ?_
                  rotate_left
                  · intro w'
                    go_simp
                    with_reducible rfl
                  rotate_left
                  · simp only [Act.put, List.setIfInBounds_toArray, List.set_cons_zero, List.set_cons_succ]; rfl
                  refine pure_ (i := 12) (N := some 61) (v := ?_) (a' := ?_) #[true, true, true, true, true, true, true, true, true, true, true, true, true, false, false, false, false, false, false, false, false, false] rfl rfl (by kernel_rfl) (fun _ _ _ h => h) (Or.inl ⟨by rfl, ?_⟩) ?_ ?_
                  rotate_left
                  · intro w'
                    go_simp
                    with_reducible rfl
                  rotate_left
                  · simp only [Act.put, List.setIfInBounds_toArray, List.set_cons_zero, List.set_cons_succ]; rfl
                  refine pure_ (i := 13) (N := some 62) (v := ?_) (a' := ?_) #[true, true, true, true, true, true, true, true, true, true, true, true, true, true, false, false, false, false, false, false, false, false] rfl rfl (by kernel_rfl) (fun _ _ _ h => h) (Or.inl ⟨by rfl, ?_⟩) ?_ ?_
                  rotate_left
                  · intro w'
                    go_simp
                    with_reducible rfl
                  rotate_left
                  · simp only [Act.put, List.setIfInBounds_toArray, List.set_cons_zero, List.set_cons_succ]; rfl
                  refine take_ (i := 14) (N := some 63) (v := ?_) (a' := ?_) #[true, true, true, true, true, true, true, true, true, true, true, true, true, true, true, false, false, false, false, false, false, false] rfl rfl (by kernel_rfl) (fun _ _ _ h => h) (Or.inl ⟨by rfl, ?_⟩) hHeld ?_ ?_
                  rotate_left
                  · rintro w' ⟨s0, s1, s2, s3⟩
                    go_simp
                    with_reducible rfl
                  rotate_left
                  · simp only [Act.put, List.setIfInBounds_toArray, List.set_cons_zero, List.set_cons_succ]; rfl
                  refine pure_ (i := 15) (N := some 64) (v := ?_) (a' := ?_) #[true, true, true, true, true, true, true, true, true, true, true, true, true, true, true, true, false, false, false, false, false, false] rfl rfl (by kernel_rfl) (fun _ _ _ h => h) (Or.inl ⟨by rfl, ?_⟩) ?_ ?_
                  rotate_left
                  · intro w'
                    go_simp
                    with_reducible rfl
                  rotate_left
                  · simp only [Act.put, List.setIfInBounds_toArray, List.set_cons_zero, List.set_cons_succ]; rfl
                  refine pure_ (i := 17) (N := some 66) (v := ?_) (a' := ?_) #[true, true, true, true, true, true, true, true, true, true, true, true, true, true, true, true, false, true, false, false, false, false] rfl rfl (by kernel_rfl) (fun _ _ _ h => h) (Or.inl ⟨by rfl, ?_⟩) ?_ ?_
                  rotate_left
                  · intro w'
                    go_simp
                    with_reducible rfl
                  rotate_left
                  · simp only [Act.put, List.setIfInBounds_toArray, List.set_cons_zero, List.set_cons_succ]; rfl
                  refine join_ (σ := Value × Nat) 3 #[true, true, true, true, true, true, true, true, true, true, true, true, true, true, true, true, true, true, true, false, false, false] (fun s_ => [(65, s_.1), (67, .slice (some ⟨s_.2, 0, none⟩) 1 1)]) (fun s_ w' => (w'.cell? ⟨g8, 0, none⟩ = some (.int .i64 ro) ∧ w'.cell? ⟨gw, 0, none⟩ = some (.pointer (some ⟨gW, 0, none⟩)) ∧ w'.cell? ⟨gd, 0, none⟩ = some (.int .i64 day) ∧ w'.cell? ⟨gp, 0, none⟩ = some (.func (.func 132) #[] #[.pointer (some ⟨gw, 0, none⟩), .pointer (some ⟨gf, 0, none⟩), .pointer (some ⟨gd, 0, none⟩), .pointer (some ⟨gp, 0, none⟩)])) ∧ Kd.R (Kd.int .i64) 3 w' wl.heap.size (fun _ => True) s_.1 p ∧ w'.heap[s_.2]? = some (.cells #[.int .i64 (s : Int)] 3 (0, 0)) ∧ Below wl.heap.size wl w') ?_ ?_
                  rotate_left
                  · intro hCont
                    refine two_ (i := 16) (j := 18) (Ni := some 65) (Nj := some 67) #[true, true, true, true, true, true, true, true, true, true, true, true, true, true, true, true, true, true, false, false, false, false] #[true, true, true, true, true, true, true, true, true, true, true, true, true, true, true, true, false, true, true, false, false, false] rfl rfl rfl rfl (by kernel_rfl) (by decide) (by decide) (fun K hK => ?_) (fun K hK => ?_)
                    · refine goes_ Try.func88 (by kernel_rfl) rfl #[.slice Ap p.length cp] (by rfl) rfl rfl (by (try simp only [List.map_toArray, List.map_cons, List.map_nil]); rfl) ?_
                      refine (slices_Clone_int.calls Ap cp p p wl (Kd.R_reads' HR.out).2.2 (Kd.R_reads' HR.out).2.1 (by unfold slices_Clone_int.f; rw [if_pos (by omega)])).mono ?_
                      rintro e wc ⟨v0, rfl, ho, hbc⟩
                      refine ⟨_, rfl, ?_⟩
                      have HO := Aside0.mk ho
                      have HBC := Aside0.mk hbc
                      have HSc := Aside0.mk (HS.out.below hbc)
                      have BK8c := Aside0.mk (blk_below BK8.out hbc)
                      clear ho hbc
                      refine hK.out _ _ ⟨(blk_cell BK8c.out 0).trans rfl, (blk_cell HSc.out.bw 0).trans rfl, (blk_cell HSc.out.bd 0).trans rfl, (blk_cell HSc.out.bp 0).trans rfl⟩ (fun hHeld => ?_)
                      clear hK K
                      refine norm_ (a' := ?_) ?_ ?_
                      rotate_left
                      · show Act.put _ (some 65) _ = _; simp only [Act.put, List.setIfInBounds_toArray, List.set_cons_zero, List.set_cons_succ]; rfl
                      refine one_ (i := 18) (N := some 67) #[true, true, true, true, true, true, true, true, true, true, true, true, true, true, true, true, true, true, true, false, false, false] rfl rfl (by kernel_rfl) (by decide) (fun K hK => ?_)
                      refine value_ (w1 := ?_) (v := ?_) (by rfl) rfl ?_ ?_
                      rotate_left 2
                      · go_simp
                        constructor
                        · rfl
                        · rfl
                      refine hK.out _ _ ⟨(blk_cell (blk_alloc BK8c.out _) 0).trans rfl, (blk_cell (blk_alloc HSc.out.bw _) 0).trans rfl, (blk_cell (blk_alloc HSc.out.bd _) 0).trans rfl, (blk_cell (blk_alloc HSc.out.bp _) 0).trans rfl⟩ (fun hHeld => ?_)
                      clear hK K
                      exact norm_ (by simp only [putAll, Act.put, List.setIfInBounds_toArray, List.set_cons_zero, List.set_cons_succ]) (hCont (v0, wc.heap.size) _ ⟨hHeld, Kd.R_below HO.out (below_alloc (Below.refl _ _) _), blk_new _ _, below_alloc HBC.out _⟩)
                    · refine value_ (w1 := ?_) (v := ?_) (by rfl) rfl ?_ ?_
                      rotate_left 2
                      · go_simp
                        constructor
                        · rfl
                        · rfl
                      have hba := below_alloc (Below.refl wl.heap.size wl) (Obj.cells #[.int .i64 (s : Int)] 3 (0, 0))
                      have HSa := Aside0.mk (HS.out.below hba)
                      have BK8a := Aside0.mk (blk_below BK8.out hba)
                      have HRa := Aside0.mk (Kd.R_below HR.out hba)
                      refine hK.out _ _ ⟨(blk_cell BK8a.out 0).trans rfl, (blk_cell HSa.out.bw 0).trans rfl, (blk_cell HSa.out.bd 0).trans rfl, (blk_cell HSa.out.bp 0).trans rfl⟩ (fun hHeld => ?_)
                      clear hK K
                      refine norm_ (a' := ?_) ?_ ?_
                      rotate_left
                      · show Act.put _ (some 67) _ = _; simp only [Act.put, List.setIfInBounds_toArray, List.set_cons_zero, List.set_cons_succ]; rfl
                      refine one_ (i := 16) (N := some 65) #[true, true, true, true, true, true, true, true, true, true, true, true, true, true, true, true, true, true, true, false, false, false] rfl rfl (by kernel_rfl) (by decide) (fun K hK => ?_)
                      refine goes_ Try.func88 (by kernel_rfl) rfl #[.slice Ap p.length cp] (by rfl) rfl rfl (by (try simp only [List.map_toArray, List.map_cons, List.map_nil]); rfl) ?_
                      refine (slices_Clone_int.calls Ap cp p p _ (Kd.R_reads' HRa.out).2.2 (Kd.R_reads' HRa.out).2.1 (by unfold slices_Clone_int.f; rw [if_pos (by omega)])).mono ?_
                      rintro e wc ⟨v0, rfl, ho, hbc⟩
                      refine ⟨_, rfl, ?_⟩
                      have HSc := Aside0.mk (HSa.out.below hbc)
                      have BK8c := Aside0.mk (blk_below BK8a.out hbc)
                      refine hK.out _ _ ⟨(blk_cell BK8c.out 0).trans rfl, (blk_cell HSc.out.bw 0).trans rfl, (blk_cell HSc.out.bd 0).trans rfl, (blk_cell HSc.out.bp 0).trans rfl⟩ (fun hHeld => ?_)
                      clear hK K
                      exact norm_ (by simp only [putAll, Act.put, List.setIfInBounds_toArray, List.set_cons_zero, List.set_cons_succ]) (hCont (v0, wl.heap.size) _ ⟨hHeld, Kd.R_lower ho hba.size, blk_below (blk_new _ _) hbc, below_step hba hbc⟩)
                  rintro ⟨v0, gl⟩ wj ⟨hHeld, ho, hgl, hbj⟩
                  refine norm_ (a' := ?_) ?_ ?_
                  rotate_left
                  · simp only [putAll, Act.put, List.setIfInBounds_toArray, List.set_cons_zero, List.set_cons_succ]
                    rfl
                  refine one_ (i := 19) (N := some 68) #[true, true, true, true, true, true, true, true, true, true, true, true, true, true, true, true, true, true, true, true, false, false] rfl rfl (by kernel_rfl) (by decide) (fun K hK => ?_)
                  refine Kd.R_append_rows_step (Kd.int .i64) (Rr := (Kd.int .i64).K wj) (w0 := wl) wl.heap.size (by rfl) (.tmp 65) (.tmp 67) 25 3 (.int .i64 0) 8 rfl Try.underlying25 info3 rfl (by decide) (by omega) v0 p [(s : Int)] (some ⟨gl, 0, none⟩) 1 1 (fun _ => True) (fun _ => False) rfl rfl ho (lit_row hgl) (fun x cs h => h) (fun _ hk => hk.elim) (fun _ _ => trivial) hbj hbj.size ?aL ?_
                  (case aL => omega)
                  intro v9 w9 ho9 hb9 hg9 hat9
                  have hrow : Kd.R (Kd.int .i64) 3 w9 w0.heap.size (okP gM gf) v9 (p ++ [(s : Int)]) := by
                    refine Kd.R_lower (Kd.R_mono (Kd.R_bound ho9) (fun k hk => ?_)) HS.out.job.bel.size
                    have h1 := HS.out.memo.lt
                    obtain ⟨fv1, hbf⟩ := HS.out.bf
                    have h2 := blk_lt hbf
                    exact ⟨by omega, by omega⟩
                  have HS9 := Aside0.mk (HS.out.below hb9)
                  have BK89 := Aside0.mk (blk_below BK8.out hb9)
                  have HR9 := Aside0.mk (Kd.R_below HR.out hb9)
                  have HT9 := Aside0.mk (HT.out.trans (Turn.of_below hb9))
                  have HROW := Aside0.mk hrow
                  clear ho9 hb9 hg9 hat9 hrow
                  refine hK.out _ _ ⟨(blk_cell BK89.out 0).trans rfl, (blk_cell HS9.out.bw 0).trans rfl, (blk_cell HS9.out.bd 0).trans rfl, (blk_cell HS9.out.bp 0).trans rfl⟩ (fun hHeld => ?_)
                  clear hK K
                  refine norm_ (a' := ?_) ?_ ?_
                  rotate_left
                  · show Act.put _ (some 68) _ = _; simp only [Act.put, List.setIfInBounds_toArray, List.set_cons_zero, List.set_cons_succ]; rfl
                  refine one_ (i := 20) (N := some 69) #[true, true, true, true, true, true, true, true, true, true, true, true, true, true, true, true, true, true, true, true, true, false] rfl rfl (by kernel_rfl) (by decide) (fun K hK => ?_)
                  refine call_ 132 #[v9, .pointer (some ⟨gw, 0, none⟩), .pointer (some ⟨gf, 0, none⟩), .pointer (some ⟨gd, 0, none⟩), .pointer (some ⟨gp, 0, none⟩)] (by rfl) rfl (by have h_ := enters_ Try.func132 (by kernel_rfl) rfl #[v9, .pointer (some ⟨gw, 0, none⟩), .pointer (some ⟨gf, 0, none⟩), .pointer (some ⟨gd, 0, none⟩), .pointer (some ⟨gp, 0, none⟩)] w9; unfold execOp; simp [resolve, Deferred.ofValue, invoke, Act.eval, h_]) ?_
                  refine (IH.out (p ++ [(s : Int)]) v9 w9 (by rw [List.length_append, List.length_singleton]; have := HK.out; omega) HS9.out HROW.out).mono ?_
                  rw [← HR2.out]
                  rintro e wp ⟨rfl, hsp, htp, hqp⟩
                  refine ⟨_, rfl, ?_⟩
                  have hn8 : ¬ (g8 = gM ∨ g8 = gf) := fun hh => hh.elim (memo_ne HS9.out.memo BK89.out) (fun e => by obtain ⟨fv1, hbf⟩ := HS9.out.bf; exact blk_ne BK89.out hbf (by decide) e)
                  have BK8p := Aside0.mk (htp.blk BK89.out hn8)
                  have HSP := Aside0.mk hsp
                  have HRP2 := Aside0.mk (Kd.R_step HR9.out (fun k hk hlt => htp.block k hlt (fun hh => hh.elim hk.1 hk.2)))
                  have HTP := Aside0.mk (HT9.out.trans htp)
                  have HQP := Aside0.mk hqp
                  clear hn8 hsp htp hqp
                  refine hK.out _ _ ⟨(blk_cell BK8p.out 0).trans rfl, (blk_cell HSP.out.bw 0).trans rfl, (blk_cell HSP.out.bd 0).trans rfl, (blk_cell HSP.out.bp 0).trans rfl⟩ (fun hHeld => ?_)
                  clear hK K
                  refine norm_ (a' := ?_) ?_ ?_
                  rotate_left
                  · show Act.put _ (some 69) _ = _; simp only [Act.put, List.setIfInBounds_toArray, List.set_cons_zero, List.set_cons_succ]; rfl
                  refine pure_ (i := 21) (N := some 70) (v := ?_) (a' := ?_) #[true, true, true, true, true, true, true, true, true, true, true, true, true, true, true, true, true, true, true, true, true, true] rfl rfl (by kernel_rfl) (fun _ _ _ h => h) (Or.inl ⟨by rfl, ?_⟩) ?_ ?_
                  rotate_left
                  · intro w'
                    go_simp
                    with_reducible rfl
                  rotate_left
                  · simp only [Act.put, List.setIfInBounds_toArray, List.set_cons_zero, List.set_cons_succ]; rfl
                  refine done_ (by kernel_rfl) ?_
                  go_wp2
                  exact ⟨⟨s + 1, by simp, by omega, ⟨by rw [HST.out, HFS.out]; rfl⟩, HSP, HRP2, HTP⟩, by simp [intOf]; omega⟩
                | some q =>
                  refine start_ (n := 22) (S := fun w' => w'.cell? ⟨g8, 0, none⟩ = some (.int .i64 ro) ∧ w'.cell? ⟨gw, 0, none⟩ = some (.pointer (some ⟨gW, 0, none⟩)) ∧ w'.cell? ⟨gd, 0, none⟩ = some (.int .i64 day) ∧ w'.cell? ⟨gp, 0, none⟩ = some (.func (.func 132) #[] #[.pointer (some ⟨gw, 0, none⟩), .pointer (some ⟨gf, 0, none⟩), .pointer (some ⟨gd, 0, none⟩), .pointer (some ⟨gp, 0, none⟩)])) (ds := []) #[false, false, false, false, false, false, false, false, false, false, false, false, false, false, false, false, false, false, false, false, false, false] (by kernel_rfl) rfl rfl ⟨(blk_cell BK8.out 0).trans rfl, (blk_cell HS.out.bw 0).trans rfl, (blk_cell HS.out.bd 0).trans rfl, (blk_cell HS.out.bp 0).trans rfl⟩ (fun hHeld => ?_)
                  generalize w8.drew = wd at BK8 HS HR HT hHeld ⊢
                  refine pure_ (i := 0) (N := some 49) (v := ?_) (a' := ?_) #[true, false, false, false, false, false, false, false, false, false, false, false, false, false, false, false, false, false, false, false, false, false] rfl rfl (by kernel_rfl) (fun _ _ _ h => h) (Or.inl ⟨by rfl, ?_⟩) ?_ ?_
                  rotate_left
                  · intro w'
                    go_simp
                    with_reducible rfl
                  rotate_left
                  · simp only [Act.put, List.setIfInBounds_toArray, List.set_cons_zero, List.set_cons_succ]; rfl
                  refine take_ (i := 1) (N := some 50) (v := ?_) (a' := ?_) #[true, true, false, false, false, false, false, false, false, false, false, false, false, false, false, false, false, false, false, false, false, false] rfl rfl (by kernel_rfl) (fun _ _ _ h => h) (Or.inl ⟨by rfl, ?_⟩) hHeld ?_ ?_
                  rotate_left
                  · rintro w' ⟨s0, s1, s2, s3⟩
                    go_simp
                    with_reducible rfl
                  rotate_left
                  · simp only [Act.put, List.setIfInBounds_toArray, List.set_cons_zero, List.set_cons_succ]; rfl
                  refine pure_ (i := 2) (N := some 51) (v := ?_) (a' := ?_) #[true, true, true, false, false, false, false, false, false, false, false, false, false, false, false, false, false, false, false, false, false, false] rfl rfl (by kernel_rfl) (fun _ _ _ h => h) (Or.inl ⟨by rfl, ?_⟩) ?_ ?_
                  rotate_left
                  · intro w'
                    go_simp
                    with_reducible rfl
                  rotate_left
                  · simp only [Act.put, List.setIfInBounds_toArray, List.set_cons_zero, List.set_cons_succ]; rfl
                  refine pure_ (i := 3) (N := some 52) (v := ?_) (a' := ?_) #[true, true, true, true, false, false, false, false, false, false, false, false, false, false, false, false, false, false, false, false, false, false] rfl rfl (by kernel_rfl) (fun _ _ _ h => h) (Or.inl ⟨by rfl, ?_⟩) ?_ ?_
                  rotate_left
                  · intro w'
                    go_simp
                    with_reducible rfl
                  rotate_left
                  · simp only [Act.put, List.setIfInBounds_toArray, List.set_cons_zero, List.set_cons_succ]; rfl
                  refine take_ (i := 4) (N := some 53) (v := ?_) (a' := ?_) #[true, true, true, true, true, false, false, false, false, false, false, false, false, false, false, false, false, false, false, false, false, false] rfl rfl (by kernel_rfl) (fun _ _ _ h => h) (Or.inl ⟨by rfl, ?_⟩) hHeld ?_ ?_
                  rotate_left
                  · rintro w' ⟨s0, s1, s2, s3⟩
                    go_simp
                    with_reducible rfl
                  rotate_left
                  · simp only [Act.put, List.setIfInBounds_toArray, List.set_cons_zero, List.set_cons_succ]; rfl
                  refine pure_ (i := 5) (N := some 54) (v := ?_) (a' := ?_) #[true, true, true, true, true, true, false, false, false, false, false, false, false, false, false, false, false, false, false, false, false, false] rfl rfl (by kernel_rfl) (fun _ _ _ h => h) (Or.inl ⟨by rfl, ?_⟩) ?_ ?_
                  rotate_left
                  · intro w'
                    go_simp
                    with_reducible rfl
                  rotate_left
                  · simp only [Act.put, List.setIfInBounds_toArray, List.set_cons_zero, List.set_cons_succ]; rfl
                  refine pure_ (i := 6) (N := some 55) (v := ?_) (a' := ?_) #[true, true, true, true, true, true, true, false, false, false, false, false, false, false, false, false, false, false, false, false, false, false] rfl rfl (by kernel_rfl) (fun _ _ _ h => h) (Or.inl ⟨by rfl, ?_⟩) ?_ ?_
                  rotate_left
                  · intro w'
                    go_simp
                    with_reducible rfl
                  rotate_left
                  · simp only [Act.put, List.setIfInBounds_toArray, List.set_cons_zero, List.set_cons_succ]; rfl
                  refine pure_ (i := 7) (N := some 56) (v := ?_) (a' := ?_) #[true, true, true, true, true, true, true, true, false, false, false, false, false, false, false, false, false, false, false, false, false, false] rfl rfl (by kernel_rfl) (fun _ _ _ h => h) (Or.inl ⟨by rfl, ?_⟩) ?_ ?_
                  rotate_left
                  · intro w'
                    go_simp
                    with_reducible rfl
                  rotate_left
                  · simp only [Act.put, List.setIfInBounds_toArray, List.set_cons_zero, List.set_cons_succ]; rfl
                  refine pure_ (i := 8) (N := some 57) (v := ?_) (a' := ?_) #[true, true, true, true, true, true, true, true, true, false, false, false, false, false, false, false, false, false, false, false, false, false] rfl rfl (by kernel_rfl) (fun _ _ _ h => h) (Or.inl ⟨by rfl, ?_⟩) ?_ ?_
                  rotate_left
                  · intro w'
                    go_simp
                    with_reducible rfl
                  rotate_left
                  · simp only [Act.put, List.setIfInBounds_toArray, List.set_cons_zero, List.set_cons_succ]; rfl
                  refine take_ (i := 10) (N := some 59) (v := ?_) (a' := ?_) #[true, true, true, true, true, true, true, true, true, false, true, false, false, false, false, false, false, false, false, false, false, false] rfl rfl (by kernel_rfl) (fun _ _ _ h => h) (Or.inl ⟨by rfl, ?_⟩) hHeld ?_ ?_
                  rotate_left
                  · rintro w' ⟨s0, s1, s2, s3⟩
                    go_simp
                    with_reducible rfl
                  rotate_left
                  · simp only [Act.put, List.setIfInBounds_toArray, List.set_cons_zero, List.set_cons_succ]; rfl
                  refine one_ (i := 9) (N := some 58) #[true, true, true, true, true, true, true, true, true, true, true, false, false, false, false, false, false, false, false, false, false, false] rfl rfl (by kernel_rfl) (by decide) (fun K hK => ?_)
                  refine goes_ Try.func85 (by kernel_rfl) rfl #[.pointer (some ⟨gW, 0, none⟩), .agg #[.int .i64 (p.length : Int), .int .i64 (s : Int)]] (by rfl) rfl rfl (by (try simp only [List.map_toArray, List.map_cons, List.map_nil]); rfl) ?_
                  refine (good.calls ⟨A1, c1, some ad2, c2, A3, c3, A4, c4, A5, c5⟩ l gW gM A7 c7 (p.length : Int) (s : Int) w0 wd HS.out.job HS.out.memo HF.out HSPOT.out).mono ?_
                  rintro e wl ⟨rfl, hj, hm, ht⟩
                  refine ⟨_, rfl, ?_⟩
                  have hne8 := memo_ne HS.out.memo BK8.out
                  replace BK8 := Aside0.mk (ht.blk BK8.out hne8)
                  replace HS := Aside0.mk (HS.out.turnM ht hm)
                  replace HR := Aside0.mk (Kd.R_step HR.out (fun k hk hlt => ht.block k hlt hk.1))
                  replace HT := Aside0.mk (HT.out.trans (ht.mono (fun k hk => .inl hk)))
                  clear hj hm ht hne8
                  rw [← HGD.out]
                  refine hK.out _ _ ⟨(blk_cell BK8.out 0).trans rfl, (blk_cell HS.out.bw 0).trans rfl, (blk_cell HS.out.bd 0).trans rfl, (blk_cell HS.out.bp 0).trans rfl⟩ (fun hHeld => ?_)
                  clear hK K
                  refine norm_ (a' := ?_) ?_ ?_
                  rotate_left
                  · show Act.put _ (some 58) _ = _; simp only [Act.put, List.setIfInBounds_toArray, List.set_cons_zero, List.set_cons_succ]; rfl
                  refine pure_ (i := 11) (N := some 60) (v := ?_) (a' := ?_) #[true, true, true, true, true, true, true, true, true, true, true, true, false, false, false, false, false, false, false, false, false, false] rfl rfl (by kernel_rfl) (fun _ _ _ h => h) (Or.inl ⟨by rfl, ?_⟩) ?_ ?_
                  rotate_left
                  · intro w'
                    go_simp
                    with_reducible rfl
                  rotate_left
                  · simp only [Act.put, List.setIfInBounds_toArray, List.set_cons_zero, List.set_cons_succ]; rfl
                  refine pure_ (i := 12) (N := some 61) (v := ?_) (a' := ?_) #[true, true, true, true, true, true, true, true, true, true, true, true, true, false, false, false, false, false, false, false, false, false] rfl rfl (by kernel_rfl) (fun _ _ _ h => h) (Or.inl ⟨by rfl, ?_⟩) ?_ ?_
                  rotate_left
                  · intro w'
                    go_simp
                    with_reducible rfl
                  rotate_left
                  · simp only [Act.put, List.setIfInBounds_toArray, List.set_cons_zero, List.set_cons_succ]; rfl
                  refine pure_ (i := 13) (N := some 62) (v := ?_) (a' := ?_) #[true, true, true, true, true, true, true, true, true, true, true, true, true, true, false, false, false, false, false, false, false, false] rfl rfl (by kernel_rfl) (fun _ _ _ h => h) (Or.inl ⟨by rfl, ?_⟩) ?_ ?_
                  rotate_left
                  · intro w'
                    go_simp
                    with_reducible rfl
                  rotate_left
                  · simp only [Act.put, List.setIfInBounds_toArray, List.set_cons_zero, List.set_cons_succ]; rfl
                  refine take_ (i := 14) (N := some 63) (v := ?_) (a' := ?_) #[true, true, true, true, true, true, true, true, true, true, true, true, true, true, true, false, false, false, false, false, false, false] rfl rfl (by kernel_rfl) (fun _ _ _ h => h) (Or.inl ⟨by rfl, ?_⟩) hHeld ?_ ?_
                  rotate_left
                  · rintro w' ⟨s0, s1, s2, s3⟩
                    go_simp
                    with_reducible rfl
                  rotate_left
                  · simp only [Act.put, List.setIfInBounds_toArray, List.set_cons_zero, List.set_cons_succ]; rfl
                  refine pure_ (i := 15) (N := some 64) (v := ?_) (a' := ?_) #[true, true, true, true, true, true, true, true, true, true, true, true, true, true, true, true, false, false, false, false, false, false] rfl rfl (by kernel_rfl) (fun _ _ _ h => h) (Or.inl ⟨by rfl, ?_⟩) ?_ ?_
                  rotate_left
                  · intro w'
                    go_simp
                    with_reducible rfl
                  rotate_left
                  · simp only [Act.put, List.setIfInBounds_toArray, List.set_cons_zero, List.set_cons_succ]; rfl
                  refine pure_ (i := 17) (N := some 66) (v := ?_) (a' := ?_) #[true, true, true, true, true, true, true, true, true, true, true, true, true, true, true, true, false, true, false, false, false, false] rfl rfl (by kernel_rfl) (fun _ _ _ h => h) (Or.inl ⟨by rfl, ?_⟩) ?_ ?_
                  rotate_left
                  · intro w'
                    go_simp
                    with_reducible rfl
                  rotate_left
                  · simp only [Act.put, List.setIfInBounds_toArray, List.set_cons_zero, List.set_cons_succ]; rfl
                  refine join_ (σ := Value × Nat) 3 #[true, true, true, true, true, true, true, true, true, true, true, true, true, true, true, true, true, true, true, false, false, false] (fun s_ => [(65, s_.1), (67, .slice (some ⟨s_.2, 0, none⟩) 1 1)]) (fun s_ w' => (w'.cell? ⟨g8, 0, none⟩ = some (.int .i64 ro) ∧ w'.cell? ⟨gw, 0, none⟩ = some (.pointer (some ⟨gW, 0, none⟩)) ∧ w'.cell? ⟨gd, 0, none⟩ = some (.int .i64 day) ∧ w'.cell? ⟨gp, 0, none⟩ = some (.func (.func 132) #[] #[.pointer (some ⟨gw, 0, none⟩), .pointer (some ⟨gf, 0, none⟩), .pointer (some ⟨gd, 0, none⟩), .pointer (some ⟨gp, 0, none⟩)])) ∧ Kd.R (Kd.int .i64) 3 w' wl.heap.size (fun _ => True) s_.1 p ∧ w'.heap[s_.2]? = some (.cells #[.int .i64 (s : Int)] 3 (0, 0)) ∧ Below wl.heap.size wl w') ?_ ?_
                  rotate_left
                  · intro hCont
                    refine two_ (i := 16) (j := 18) (Ni := some 65) (Nj := some 67) #[true, true, true, true, true, true, true, true, true, true, true, true, true, true, true, true, true, true, false, false, false, false] #[true, true, true, true, true, true, true, true, true, true, true, true, true, true, true, true, false, true, true, false, false, false] rfl rfl rfl rfl (by kernel_rfl) (by decide) (by decide) (fun K hK => ?_) (fun K hK => ?_)
                    · refine goes_ Try.func88 (by kernel_rfl) rfl #[.slice Ap p.length cp] (by rfl) rfl rfl (by (try simp only [List.map_toArray, List.map_cons, List.map_nil]); rfl) ?_
                      refine (slices_Clone_int.calls Ap cp p p wl (Kd.R_reads' HR.out).2.2 (Kd.R_reads' HR.out).2.1 (by unfold slices_Clone_int.f; rw [if_pos (by omega)])).mono ?_
                      rintro e wc ⟨v0, rfl, ho, hbc⟩
                      refine ⟨_, rfl, ?_⟩
                      have HO := Aside0.mk ho
                      have HBC := Aside0.mk hbc
                      have HSc := Aside0.mk (HS.out.below hbc)
                      have BK8c := Aside0.mk (blk_below BK8.out hbc)
                      clear ho hbc
                      refine hK.out _ _ ⟨(blk_cell BK8c.out 0).trans rfl, (blk_cell HSc.out.bw 0).trans rfl, (blk_cell HSc.out.bd 0).trans rfl, (blk_cell HSc.out.bp 0).trans rfl⟩ (fun hHeld => ?_)
                      clear hK K
                      refine norm_ (a' := ?_) ?_ ?_
                      rotate_left
                      · show Act.put _ (some 65) _ = _; simp only [Act.put, List.setIfInBounds_toArray, List.set_cons_zero, List.set_cons_succ]; rfl
                      refine one_ (i := 18) (N := some 67) #[true, true, true, true, true, true, true, true, true, true, true, true, true, true, true, true, true, true, true, false, false, false] rfl rfl (by kernel_rfl) (by decide) (fun K hK => ?_)
                      refine value_ (w1 := ?_) (v := ?_) (by rfl) rfl ?_ ?_
                      rotate_left 2
                      · go_simp
                        constructor
                        · rfl
                        · rfl
                      refine hK.out _ _ ⟨(blk_cell (blk_alloc BK8c.out _) 0).trans rfl, (blk_cell (blk_alloc HSc.out.bw _) 0).trans rfl, (blk_cell (blk_alloc HSc.out.bd _) 0).trans rfl, (blk_cell (blk_alloc HSc.out.bp _) 0).trans rfl⟩ (fun hHeld => ?_)
                      clear hK K
                      exact norm_ (by simp only [putAll, Act.put, List.setIfInBounds_toArray, List.set_cons_zero, List.set_cons_succ]) (hCont (v0, wc.heap.size) _ ⟨hHeld, Kd.R_below HO.out (below_alloc (Below.refl _ _) _), blk_new _ _, below_alloc HBC.out _⟩)
                    · refine value_ (w1 := ?_) (v := ?_) (by rfl) rfl ?_ ?_
                      rotate_left 2
                      · go_simp
                        constructor
                        · rfl
                        · rfl
                      have hba := below_alloc (Below.refl wl.heap.size wl) (Obj.cells #[.int .i64 (s : Int)] 3 (0, 0))
                      have HSa := Aside0.mk (HS.out.below hba)
                      have BK8a := Aside0.mk (blk_below BK8.out hba)
                      have HRa := Aside0.mk (Kd.R_below HR.out hba)
                      refine hK.out _ _ ⟨(blk_cell BK8a.out 0).trans rfl, (blk_cell HSa.out.bw 0).trans rfl, (blk_cell HSa.out.bd 0).trans rfl, (blk_cell HSa.out.bp 0).trans rfl⟩ (fun hHeld => ?_)
                      clear hK K
                      refine norm_ (a' := ?_) ?_ ?_
                      rotate_left
                      · show Act.put _ (some 67) _ = _; simp only [Act.put, List.setIfInBounds_toArray, List.set_cons_zero, List.set_cons_succ]; rfl
                      refine one_ (i := 16) (N := some 65) #[true, true, true, true, true, true, true, true, true, true, true, true, true, true, true, true, true, true, true, false, false, false] rfl rfl (by kernel_rfl) (by decide) (fun K hK => ?_)
                      refine goes_ Try.func88 (by kernel_rfl) rfl #[.slice Ap p.length cp] (by rfl) rfl rfl (by (try simp only [List.map_toArray, List.map_cons, List.map_nil]); rfl) ?_
                      refine (slices_Clone_int.calls Ap cp p p _ (Kd.R_reads' HRa.out).2.2 (Kd.R_reads' HRa.out).2.1 (by unfold slices_Clone_int.f; rw [if_pos (by omega)])).mono ?_
                      rintro e wc ⟨v0, rfl, ho, hbc⟩
                      refine ⟨_, rfl, ?_⟩
                      have HSc := Aside0.mk (HSa.out.below hbc)
                      have BK8c := Aside0.mk (blk_below BK8a.out hbc)
                      refine hK.out _ _ ⟨(blk_cell BK8c.out 0).trans rfl, (blk_cell HSc.out.bw 0).trans rfl, (blk_cell HSc.out.bd 0).trans rfl, (blk_cell HSc.out.bp 0).trans rfl⟩ (fun hHeld => ?_)
                      clear hK K
                      exact norm_ (by simp only [putAll, Act.put, List.setIfInBounds_toArray, List.set_cons_zero, List.set_cons_succ]) (hCont (v0, wl.heap.size) _ ⟨hHeld, Kd.R_lower ho hba.size, blk_below (blk_new _ _) hbc, below_step hba hbc⟩)
                  rintro ⟨v0, gl⟩ wj ⟨hHeld, ho, hgl, hbj⟩
                  refine norm_ (a' := ?_) ?_ ?_
                  rotate_left
                  · simp only [putAll, Act.put, List.setIfInBounds_toArray, List.set_cons_zero, List.set_cons_succ]
                    rfl
                  refine one_ (i := 19) (N := some 68) #[true, true, true, true, true, true, true, true, true, true, true, true, true, true, true, true, true, true, true, true, false, false] rfl rfl (by kernel_rfl) (by decide) (fun K hK => ?_)
                  refine Kd.R_append_rows_step (Kd.int .i64) (Rr := (Kd.int .i64).K wj) (w0 := wl) wl.heap.size (by rfl) (.tmp 65) (.tmp 67) 25 3 (.int .i64 0) 8 rfl Try.underlying25 info3 rfl (by decide) (by omega) v0 p [(s : Int)] (some ⟨gl, 0, none⟩) 1 1 (fun _ => True) (fun _ => False) rfl rfl ho (lit_row hgl) (fun x cs h => h) (fun _ hk => hk.elim) (fun _ _ => trivial) hbj hbj.size ?aL ?_
                  (case aL => omega)
                  intro v9 w9 ho9 hb9 hg9 hat9
                  have hrow : Kd.R (Kd.int .i64) 3 w9 w0.heap.size (okP gM gf) v9 (p ++ [(s : Int)]) := by
                    refine Kd.R_lower (Kd.R_mono (Kd.R_bound ho9) (fun k hk => ?_)) HS.out.job.bel.size
                    have h1 := HS.out.memo.lt
                    obtain ⟨fv1, hbf⟩ := HS.out.bf
                    have h2 := blk_lt hbf
                    exact ⟨by omega, by omega⟩
                  have HS9 := Aside0.mk (HS.out.below hb9)
                  have BK89 := Aside0.mk (blk_below BK8.out hb9)
                  have HR9 := Aside0.mk (Kd.R_below HR.out hb9)
                  have HT9 := Aside0.mk (HT.out.trans (Turn.of_below hb9))
                  have HROW := Aside0.mk hrow
                  clear ho9 hb9 hg9 hat9 hrow
                  refine hK.out _ _ ⟨(blk_cell BK89.out 0).trans rfl, (blk_cell HS9.out.bw 0).trans rfl, (blk_cell HS9.out.bd 0).trans rfl, (blk_cell HS9.out.bp 0).trans rfl⟩ (fun hHeld => ?_)
                  clear hK K
                  refine norm_ (a' := ?_) ?_ ?_
                  rotate_left
                  · show Act.put _ (some 68) _ = _; simp only [Act.put, List.setIfInBounds_toArray, List.set_cons_zero, List.set_cons_succ]; rfl
                  refine one_ (i := 20) (N := some 69) #[true, true, true, true, true, true, true, true, true, true, true, true, true, true, true, true, true, true, true, true, true, false] rfl rfl (by kernel_rfl) (by decide) (fun K hK => ?_)
                  refine call_ 132 #[v9, .pointer (some ⟨gw, 0, none⟩), .pointer (some ⟨gf, 0, none⟩), .pointer (some ⟨gd, 0, none⟩), .pointer (some ⟨gp, 0, none⟩)] (by rfl) rfl (by have h_ := enters_ Try.func132 (by kernel_rfl) rfl #[v9, .pointer (some ⟨gw, 0, none⟩), .pointer (some ⟨gf, 0, none⟩), .pointer (some ⟨gd, 0, none⟩), .pointer (some ⟨gp, 0, none⟩)] w9; unfold execOp; simp [resolve, Deferred.ofValue, invoke, Act.eval, h_]) ?_
                  refine (IH.out (p ++ [(s : Int)]) v9 w9 (by rw [List.length_append, List.length_singleton]; have := HK.out; omega) HS9.out HROW.out).mono ?_
                  rw [← HR2.out]
                  rintro e wp ⟨rfl, hsp, htp, hqp⟩
                  refine ⟨_, rfl, ?_⟩
                  have hn8 : ¬ (g8 = gM ∨ g8 = gf) := fun hh => hh.elim (memo_ne HS9.out.memo BK89.out) (fun e => by obtain ⟨fv1, hbf⟩ := HS9.out.bf; exact blk_ne BK89.out hbf (by decide) e)
                  have BK8p := Aside0.mk (htp.blk BK89.out hn8)
                  have HSP := Aside0.mk hsp
                  have HRP2 := Aside0.mk (Kd.R_step HR9.out (fun k hk hlt => htp.block k hlt (fun hh => hh.elim hk.1 hk.2)))
                  have HTP := Aside0.mk (HT9.out.trans htp)
                  have HQP := Aside0.mk hqp
                  clear hn8 hsp htp hqp
                  refine hK.out _ _ ⟨(blk_cell BK8p.out 0).trans rfl, (blk_cell HSP.out.bw 0).trans rfl, (blk_cell HSP.out.bd 0).trans rfl, (blk_cell HSP.out.bp 0).trans rfl⟩ (fun hHeld => ?_)
                  clear hK K
                  refine norm_ (a' := ?_) ?_ ?_
                  rotate_left
                  · show Act.put _ (some 69) _ = _; simp only [Act.put, List.setIfInBounds_toArray, List.set_cons_zero, List.set_cons_succ]; rfl
                  refine pure_ (i := 21) (N := some 70) (v := ?_) (a' := ?_) #[true, true, true, true, true, true, true, true, true, true, true, true, true, true, true, true, true, true, true, true, true, true] rfl rfl (by kernel_rfl) (fun _ _ _ h => h) (Or.inl ⟨by rfl, ?_⟩) ?_ ?_
                  rotate_left
                  · intro w'
                    go_simp
                    with_reducible rfl
                  rotate_left
                  · simp only [Act.put, List.setIfInBounds_toArray, List.set_cons_zero, List.set_cons_succ]; rfl
                  refine done_ (by kernel_rfl) ?_
                  have HRQ := Aside0.mk (show r = some q by rw [HST.out, HFS.out]; rfl)
                  go_wp2
                  go_ret
                  exact ⟨by rw [HRQ.out]; rfl, HSP.out, HTP.out, fun q' hq' => by rw [HRQ.out] at hq'; exact HQP.out q' hq'⟩
              · have hleb : decide (gd_ ≤ day) = false := decide_eq_false hle
                have HLE2 := Aside0.mk hle
                clear hle
                refine start_ (n := 22) (S := fun w' => w'.cell? ⟨g8, 0, none⟩ = some (.int .i64 ro) ∧ w'.cell? ⟨gw, 0, none⟩ = some (.pointer (some ⟨gW, 0, none⟩)) ∧ w'.cell? ⟨gd, 0, none⟩ = some (.int .i64 day) ∧ w'.cell? ⟨gp, 0, none⟩ = some (.func (.func 132) #[] #[.pointer (some ⟨gw, 0, none⟩), .pointer (some ⟨gf, 0, none⟩), .pointer (some ⟨gd, 0, none⟩), .pointer (some ⟨gp, 0, none⟩)])) (ds := []) #[false, false, false, false, false, false, false, false, false, false, false, false, false, false, false, false, false, false, false, false, false, false] (by kernel_rfl) rfl rfl ⟨(blk_cell BK8.out 0).trans rfl, (blk_cell HS.out.bw 0).trans rfl, (blk_cell HS.out.bd 0).trans rfl, (blk_cell HS.out.bp 0).trans rfl⟩ (fun hHeld => ?_)
                generalize w8.drew = wd at BK8 HS HR HT hHeld ⊢
                refine pure_ (i := 0) (N := some 49) (v := ?_) (a' := ?_) #[true, false, false, false, false, false, false, false, false, false, false, false, false, false, false, false, false, false, false, false, false, false] rfl rfl (by kernel_rfl) (fun _ _ _ h => h) (Or.inl ⟨by rfl, ?_⟩) ?_ ?_
                rotate_left
                · intro w'
                  go_simp
                  with_reducible rfl
                rotate_left
                · simp only [Act.put, List.setIfInBounds_toArray, List.set_cons_zero, List.set_cons_succ]; rfl
                refine take_ (i := 1) (N := some 50) (v := ?_) (a' := ?_) #[true, true, false, false, false, false, false, false, false, false, false, false, false, false, false, false, false, false, false, false, false, false] rfl rfl (by kernel_rfl) (fun _ _ _ h => h) (Or.inl ⟨by rfl, ?_⟩) hHeld ?_ ?_
                rotate_left
                · rintro w' ⟨s0, s1, s2, s3⟩
                  go_simp
                  with_reducible rfl
                rotate_left
                · simp only [Act.put, List.setIfInBounds_toArray, List.set_cons_zero, List.set_cons_succ]; rfl
                refine pure_ (i := 2) (N := some 51) (v := ?_) (a' := ?_) #[true, true, true, false, false, false, false, false, false, false, false, false, false, false, false, false, false, false, false, false, false, false] rfl rfl (by kernel_rfl) (fun _ _ _ h => h) (Or.inl ⟨by rfl, ?_⟩) ?_ ?_
                rotate_left
                · intro w'
                  go_simp
                  with_reducible rfl
                rotate_left
                · simp only [Act.put, List.setIfInBounds_toArray, List.set_cons_zero, List.set_cons_succ]; rfl
                refine pure_ (i := 3) (N := some 52) (v := ?_) (a' := ?_) #[true, true, true, true, false, false, false, false, false, false, false, false, false, false, false, false, false, false, false, false, false, false] rfl rfl (by kernel_rfl) (fun _ _ _ h => h) (Or.inl ⟨by rfl, ?_⟩) ?_ ?_
                rotate_left
                · intro w'
                  go_simp
                  with_reducible rfl
                rotate_left
                · simp only [Act.put, List.setIfInBounds_toArray, List.set_cons_zero, List.set_cons_succ]; rfl
                refine take_ (i := 4) (N := some 53) (v := ?_) (a' := ?_) #[true, true, true, true, true, false, false, false, false, false, false, false, false, false, false, false, false, false, false, false, false, false] rfl rfl (by kernel_rfl) (fun _ _ _ h => h) (Or.inl ⟨by rfl, ?_⟩) hHeld ?_ ?_
                rotate_left
                · rintro w' ⟨s0, s1, s2, s3⟩
                  go_simp
                  with_reducible rfl
                rotate_left
                · simp only [Act.put, List.setIfInBounds_toArray, List.set_cons_zero, List.set_cons_succ]; rfl
                refine pure_ (i := 5) (N := some 54) (v := ?_) (a' := ?_) #[true, true, true, true, true, true, false, false, false, false, false, false, false, false, false, false, false, false, false, false, false, false] rfl rfl (by kernel_rfl) (fun _ _ _ h => h) (Or.inl ⟨by rfl, ?_⟩) ?_ ?_
                rotate_left
                · intro w'
                  go_simp
                  with_reducible rfl
                rotate_left
                · simp only [Act.put, List.setIfInBounds_toArray, List.set_cons_zero, List.set_cons_succ]; rfl
                refine pure_ (i := 6) (N := some 55) (v := ?_) (a' := ?_) #[true, true, true, true, true, true, true, false, false, false, false, false, false, false, false, false, false, false, false, false, false, false] rfl rfl (by kernel_rfl) (fun _ _ _ h => h) (Or.inl ⟨by rfl, ?_⟩) ?_ ?_
                rotate_left
                · intro w'
                  go_simp
                  with_reducible rfl
                rotate_left
                · simp only [Act.put, List.setIfInBounds_toArray, List.set_cons_zero, List.set_cons_succ]; rfl
                refine pure_ (i := 7) (N := some 56) (v := ?_) (a' := ?_) #[true, true, true, true, true, true, true, true, false, false, false, false, false, false, false, false, false, false, false, false, false, false] rfl rfl (by kernel_rfl) (fun _ _ _ h => h) (Or.inl ⟨by rfl, ?_⟩) ?_ ?_
                rotate_left
                · intro w'
                  go_simp
                  with_reducible rfl
                rotate_left
                · simp only [Act.put, List.setIfInBounds_toArray, List.set_cons_zero, List.set_cons_succ]; rfl
                refine pure_ (i := 8) (N := some 57) (v := ?_) (a' := ?_) #[true, true, true, true, true, true, true, true, true, false, false, false, false, false, false, false, false, false, false, false, false, false] rfl rfl (by kernel_rfl) (fun _ _ _ h => h) (Or.inl ⟨by rfl, ?_⟩) ?_ ?_
                rotate_left
                · intro w'
                  go_simp
                  with_reducible rfl
                rotate_left
                · simp only [Act.put, List.setIfInBounds_toArray, List.set_cons_zero, List.set_cons_succ]; rfl
                refine take_ (i := 10) (N := some 59) (v := ?_) (a' := ?_) #[true, true, true, true, true, true, true, true, true, false, true, false, false, false, false, false, false, false, false, false, false, false] rfl rfl (by kernel_rfl) (fun _ _ _ h => h) (Or.inl ⟨by rfl, ?_⟩) hHeld ?_ ?_
                rotate_left
                · rintro w' ⟨s0, s1, s2, s3⟩
                  go_simp
                  with_reducible rfl
                rotate_left
                · simp only [Act.put, List.setIfInBounds_toArray, List.set_cons_zero, List.set_cons_succ]; rfl
                refine one_ (i := 9) (N := some 58) #[true, true, true, true, true, true, true, true, true, true, true, false, false, false, false, false, false, false, false, false, false, false] rfl rfl (by kernel_rfl) (by decide) (fun K hK => ?_)
                refine goes_ Try.func85 (by kernel_rfl) rfl #[.pointer (some ⟨gW, 0, none⟩), .agg #[.int .i64 (p.length : Int), .int .i64 (s : Int)]] (by rfl) rfl rfl (by (try simp only [List.map_toArray, List.map_cons, List.map_nil]); rfl) ?_
                refine (good.calls ⟨A1, c1, some ad2, c2, A3, c3, A4, c4, A5, c5⟩ l gW gM A7 c7 (p.length : Int) (s : Int) w0 wd HS.out.job HS.out.memo HF.out HSPOT.out).mono ?_
                rintro e wl ⟨rfl, hj, hm, ht⟩
                refine ⟨_, rfl, ?_⟩
                have hne8 := memo_ne HS.out.memo BK8.out
                replace BK8 := Aside0.mk (ht.blk BK8.out hne8)
                replace HS := Aside0.mk (HS.out.turnM ht hm)
                replace HR := Aside0.mk (Kd.R_step HR.out (fun k hk hlt => ht.block k hlt hk.1))
                replace HT := Aside0.mk (HT.out.trans (ht.mono (fun k hk => .inl hk)))
                clear hj hm ht hne8
                rw [← HGD.out]
                refine hK.out _ _ ⟨(blk_cell BK8.out 0).trans rfl, (blk_cell HS.out.bw 0).trans rfl, (blk_cell HS.out.bd 0).trans rfl, (blk_cell HS.out.bp 0).trans rfl⟩ (fun hHeld => ?_)
                clear hK K
                refine norm_ (a' := ?_) ?_ ?_
                rotate_left
                · show Act.put _ (some 58) _ = _; simp only [Act.put, List.setIfInBounds_toArray, List.set_cons_zero, List.set_cons_succ]; rfl
                refine pure_ (i := 11) (N := some 60) (v := ?_) (a' := ?_) #[true, true, true, true, true, true, true, true, true, true, true, true, false, false, false, false, false, false, false, false, false, false] rfl rfl (by kernel_rfl) (fun _ _ _ h => h) (Or.inl ⟨by rfl, ?_⟩) ?_ ?_
                rotate_left
                · intro w'
                  go_simp
                  with_reducible rfl
                rotate_left
                · simp only [Act.put, List.setIfInBounds_toArray, List.set_cons_zero, List.set_cons_succ]; rfl
                refine pure_ (i := 12) (N := some 61) (v := ?_) (a' := ?_) #[true, true, true, true, true, true, true, true, true, true, true, true, true, false, false, false, false, false, false, false, false, false] rfl rfl (by kernel_rfl) (fun _ _ _ h => h) (Or.inl ⟨by rfl, ?_⟩) ?_ ?_
                rotate_left
                · intro w'
                  go_simp
                  with_reducible rfl
                rotate_left
                · simp only [Act.put, List.setIfInBounds_toArray, List.set_cons_zero, List.set_cons_succ]; rfl
                refine pure_ (i := 13) (N := some 62) (v := ?_) (a' := ?_) #[true, true, true, true, true, true, true, true, true, true, true, true, true, true, false, false, false, false, false, false, false, false] rfl rfl (by kernel_rfl) (fun _ _ _ h => h) (Or.inl ⟨by rfl, ?_⟩) ?_ ?_
                rotate_left
                · intro w'
                  go_simp
                  with_reducible rfl
                rotate_left
                · simp only [Act.put, List.setIfInBounds_toArray, List.set_cons_zero, List.set_cons_succ]; rfl
                refine pure_ (i := 14) (N := some 63) (v := undef) (a' := ?_) #[true, true, true, true, true, true, true, true, true, true, true, true, true, true, true, false, false, false, false, false, false, false] rfl rfl (by kernel_rfl) (fun _ _ _ h => h) (Or.inr ⟨by rfl, rfl⟩) ?_ ?_
                rotate_left
                · simp only [Act.put, List.setIfInBounds_toArray, List.set_cons_zero, List.set_cons_succ]; rfl
                refine pure_ (i := 15) (N := some 64) (v := undef) (a' := ?_) #[true, true, true, true, true, true, true, true, true, true, true, true, true, true, true, true, false, false, false, false, false, false] rfl rfl (by kernel_rfl) (fun _ _ _ h => h) (Or.inr ⟨by rfl, rfl⟩) ?_ ?_
                rotate_left
                · simp only [Act.put, List.setIfInBounds_toArray, List.set_cons_zero, List.set_cons_succ]; rfl
                refine pure_ (i := 16) (N := some 65) (v := undef) (a' := ?_) #[true, true, true, true, true, true, true, true, true, true, true, true, true, true, true, true, true, false, false, false, false, false] rfl rfl (by kernel_rfl) (fun _ _ _ h => h) (Or.inr ⟨by rfl, rfl⟩) ?_ ?_
                rotate_left
                · simp only [Act.put, List.setIfInBounds_toArray, List.set_cons_zero, List.set_cons_succ]; rfl
                refine pure_ (i := 17) (N := some 66) (v := undef) (a' := ?_) #[true, true, true, true, true, true, true, true, true, true, true, true, true, true, true, true, true, true, false, false, false, false] rfl rfl (by kernel_rfl) (fun _ _ _ h => h) (Or.inr ⟨by rfl, rfl⟩) ?_ ?_
                rotate_left
                · simp only [Act.put, List.setIfInBounds_toArray, List.set_cons_zero, List.set_cons_succ]; rfl
                refine pure_ (i := 18) (N := some 67) (v := undef) (a' := ?_) #[true, true, true, true, true, true, true, true, true, true, true, true, true, true, true, true, true, true, true, false, false, false] rfl rfl (by kernel_rfl) (fun _ _ _ h => h) (Or.inr ⟨by rfl, rfl⟩) ?_ ?_
                rotate_left
                · simp only [Act.put, List.setIfInBounds_toArray, List.set_cons_zero, List.set_cons_succ]; rfl
                refine pure_ (i := 19) (N := some 68) (v := undef) (a' := ?_) #[true, true, true, true, true, true, true, true, true, true, true, true, true, true, true, true, true, true, true, true, false, false] rfl rfl (by kernel_rfl) (fun _ _ _ h => h) (Or.inr ⟨by rfl, rfl⟩) ?_ ?_
                rotate_left
                · simp only [Act.put, List.setIfInBounds_toArray, List.set_cons_zero, List.set_cons_succ]; rfl
                refine pure_ (i := 20) (N := some 69) (v := undef) (a' := ?_) #[true, true, true, true, true, true, true, true, true, true, true, true, true, true, true, true, true, true, true, true, true, false] rfl rfl (by kernel_rfl) (fun _ _ _ h => h) (Or.inr ⟨by rfl, rfl⟩) ?_ ?_
                rotate_left
                · simp only [Act.put, List.setIfInBounds_toArray, List.set_cons_zero, List.set_cons_succ]; rfl
                refine pure_ (i := 21) (N := some 70) (v := ?_) (a' := ?_) #[true, true, true, true, true, true, true, true, true, true, true, true, true, true, true, true, true, true, true, true, true, true] rfl rfl (by kernel_rfl) (fun _ _ _ h => h) (Or.inl ⟨by rfl, ?_⟩) ?_ ?_
                rotate_left
                · intro w'
                  go_simp
                  with_reducible rfl
                rotate_left
                · simp only [Act.put, List.setIfInBounds_toArray, List.set_cons_zero, List.set_cons_succ]; rfl
                refine done_ (by kernel_rfl) ?_
                have hFn : F s = none := by
                  rw [HFE.out]
                  refine if_neg ?_
                  unfold SL.fits
                  rw [← HGD.out, decide_eq_true_eq]
                  rintro ⟨_, _, h3⟩
                  exact HLE2.out h3
                go_wp2
                exact ⟨⟨s + 1, by simp, by omega, ⟨by rw [HST.out, hFn]; rfl⟩, HS, HR, HT⟩, by simp [intOf]; omega⟩
            · have hrob : decide (0 < ro) = false := decide_eq_false hro
              have HN := Aside0.mk hro
              clear hro
              go_quiet (fail)
              have hb_ := pw_below_drewN (Below.refl w8.heap.size w8) nq
              have hFn : F s = none := by
                rw [HFE.out]
                refine if_neg ?_
                unfold SL.fits
                rw [← HRO.out, decide_eq_true_eq]
                rintro ⟨h1, _⟩
                exact HN.out h1
              go_wp2
              exact ⟨⟨s + 1, by simp, by omega, ⟨by rw [HST.out, hFn]; rfl⟩, ⟨HS.out.below hb_⟩, ⟨Kd.R_below HR.out hb_⟩, ⟨HT.out.trans (Turn.of_below hb_)⟩⟩, by simp [intOf]; omega⟩
      · have hse : s = l.l2.length := by omega
        have HN := Aside0.mk (show r = none by rw [← HE.out, hse, List.drop_of_length_le (by simp)]; rfl)
        have hlti : (l.l2.length : Int) ≤ (s : Int) := by omega
        clear hse
        go_wp2
        rw [Exit.noGoto_ret]
        go_ret
        exact ⟨by rw [HN.out]; rfl, HS.out, HT.out, fun q hq => by rw [HN.out] at hq; cases hq⟩
end Go.Proofs.Ytjifalohjlihaaa.Q
end
section
namespace Go.Proofs.Ytjifalohjlihaaa.Q
set_option linter.unusedVariables false
open Go.BigFrame Go.RowKit Go.Shelf Go.Proofs.YtjifalohjlihaaaW.PrintWords Go.Proofs.YtjifalohjlihaaaW.PrintLast Go.Proofs.YtjifalohjlihaaaW.PrintMore
def SL.placeBy (l : SL) (day : Int) : Option (List Int) := l.search day l.l3.length []
theorem results_cell2 {P : Program} {fn : Func} {t : TypeId} {a u : Tmp} (h : fn.results = #[.cell a t, .tmp u]) {tmps : Array Value} {w : World} {g : Nat} {v : Value} (ht : tmps.getD a undef = .pointer (some ⟨g, 0, none⟩)) (hl : (loadVar t ⟨g, 0, none⟩).run P w = .ok v w) : (results fn tmps).run P w = .ok (.tuple #[v, tmps.getD u undef]) w := by
  rw [results_cell_tmp h, ht]
  simp [asAddr, Result.andThen, hl]
theorem load_slice {w : World} {g : Nat} {A : Option Addr} {n c : Nat} {t : TypeId} (h : w.heap[g]? = some (.cells #[.slice A n c] t (0, 0))) : (loadVar 25 ⟨g, 0, none⟩).run Try.prog w = .ok (.slice A n c) w := by
  have h1 : w.cell? ⟨g, 0, none⟩ = some (.slice A n c) := (blk_cell h 0).trans rfl
  have h2 := blk_frozen h 0
  go_simp
attribute [local go_sem] run_store_func
set_option maxRecDepth 100000 in
set_option maxHeartbeats 6400000 in
theorem place_calls (x : SA) (l : SL) (gW gM : Nat) (A7 : Option Addr) (c7 : Nat) (day : Int) (w0 w : World) (hJ : Job w0 w x l gW gM A7 c7) (hM : l.Days w gM) (hf : l.fault = 0) (hne : l.truths ≠ []) :
    Calls Try.prog 110 #[.pointer (some ⟨gW, 0, none⟩), .int .i64 day] w fun e w' => ∃ v, e = .returned (.tuple #[v, .bool (l.placeBy day).isSome]) ∧ Job w0 w' x l gW gM A7 c7 ∧ l.Days w' gM ∧ Below w0.heap.size w0 w' ∧
      ∀ q, l.placeBy day = some q → Kd.R (Kd.int .i64) 3 w' w0.heap.size (fun _ => True) v q := by
  have J := Aside0.mk hJ
  have HM := Aside0.mk hM
  have HF := Aside0.mk hf
  have HB := Aside0.mk (Below.refl w.heap.size w)
  obtain ⟨r, hr⟩ : ∃ r, r = l.placeBy day := ⟨_, rfl⟩
  have HR2 := Aside0.mk (show l.search day l.l3.length [] = r by rw [hr]; rfl)
  rw [← hr]
  clear hJ hM hf hr
  go_enter Try.func110, Try.ntmps110
  go_upto_region 2 with (first | ((with_reducible refine gate_dst (N := 2) rfl ?_); refine box_event ?hg (N := 2) ?hd (cs := #[.pointer (some ⟨gW, 0, none⟩)]) (t := 120) ?hr ?_; (case hd => rfl); (case hg => rfl); (case hr => first | (go_simp; done) | (go_simp; rfl)); intro g2 hg_ w2 hbx_ hb_; have BK2 := Aside0.mk hbx_; have g2ge : w.heap.size ≤ g2 := (by have := below_size HB.out; omega); have g2GE := Aside0.mk g2ge; clear g2ge; have HBn := Aside0.mk (below_step HB.out hb_); clear HB hg_ hb_ hbx_; have HB := HBn; clear HBn) | ((with_reducible refine gate_dst (N := 3) rfl ?_); refine box_event ?hg (N := 3) ?hd (cs := #[.int .i64 day]) (t := 3) ?hr ?_; (case hd => rfl); (case hg => rfl); (case hr => first | (go_simp; done) | (go_simp; rfl)); intro g3 hg_ w3 hbx_ hb_; have BK3 := Aside0.mk hbx_; have g3ge : w.heap.size ≤ g3 := (by have := below_size HB.out; omega); have g3GE := Aside0.mk g3ge; clear g3ge; have HBn := Aside0.mk (below_step HB.out hb_); have z_ := Aside0.mk (blk_below BK2.out hb_); clear BK2; have BK2 := z_; clear z_; clear HB hg_ hb_ hbx_; have HB := HBn; clear HBn))
  obtain ⟨gf, hgf⟩ : ∃ k, k = w3.heap.size := ⟨_, rfl⟩
  obtain ⟨gp, hgp⟩ : ∃ k, k = w3.heap.size + 1 := ⟨_, rfl⟩
  obtain ⟨w4, hw4⟩ : ∃ w_, w_ = World.alloc (World.alloc w3 (Obj.cells #[.slice none 0 0] 25 (0, 0))) (Obj.cells #[.nilFunc] 123 (0, 0)) := ⟨_, rfl⟩
  have BF : w4.heap[gf]? = some (.cells #[.slice none 0 0] 25 (0, 0)) := by rw [hw4, hgf]; exact blk_alloc (blk_new _ _) _
  have BP : w4.heap[gp]? = some (.cells #[.nilFunc] 123 (0, 0)) := by
    have h_ := blk_new (World.alloc w3 (Obj.cells #[.slice none 0 0] 25 (0, 0))) (Obj.cells #[.nilFunc] 123 (0, 0))
    rw [World.size_alloc] at h_
    rw [hw4, hgp]; exact h_
  have hb4 : Below w3.heap.size w3 w4 := by rw [hw4]; exact below_alloc (below_alloc (Below.refl _ _) _) _
  have hb04 := below_step HB.out hb4
  replace BK2 := Aside0.mk (blk_below BK2.out hb4)
  replace BK3 := Aside0.mk (blk_below BK3.out hb4)
  have J4 := J.out.below hb04
  have M4 := HM.out.keep (hb04.block gM HM.out.lt)
  rw [← hw4, ← hgp, ← hgf]
  have fp : w4.cell? ⟨gp, 0, none⟩ = some .nilFunc := (blk_cell BP 0).trans rfl
  have ffp := blk_frozen BP 0
  have hwge : w.heap.size ≤ gp := by have := HB.out.size; omega
  have hwgf : w.heap.size ≤ gf := by have := HB.out.size; omega
  have hb5 : Below w.heap.size w (w4.setCell ⟨gp, 0, none⟩ (.func (.func 132) #[] #[.pointer (some ⟨g2, 0, none⟩), .pointer (some ⟨gf, 0, none⟩), .pointer (some ⟨g3, 0, none⟩), .pointer (some ⟨gp, 0, none⟩)])) := below_set hb04 hwge
  have hS : PutS w0 (w4.setCell ⟨gp, 0, none⟩ (.func (.func 132) #[] #[.pointer (some ⟨g2, 0, none⟩), .pointer (some ⟨gf, 0, none⟩), .pointer (some ⟨g3, 0, none⟩), .pointer (some ⟨gp, 0, none⟩)])) x l gW gM A7 c7 g2 gf g3 gp day := by
    refine ⟨J.out.below hb5, HM.out.keep (hb5.block gM HM.out.lt), blk_far BK2.out (blk_ne BK2.out BP (by decide)) _, blk_far BK3.out (blk_ne BK3.out BP (by decide)) _, blk_set BP 0 _, ⟨(none, 0, 0), blk_far BF (blk_ne BF BP (by decide)) _⟩, Nat.le_trans J.out.bel.size hwgf, fun a e hh => ?_⟩
    have hn : 0 < l.truths.length := List.length_pos_iff.2 hne
    obtain ⟨a', e', hj⟩ := J.out.work.tr.2.2 hn
    obtain rfl : a' = a := by rw [e] at e'; exact (Option.some.inj e').symm
    obtain ⟨c, hl, hK, hi⟩ := hj 0 _ (List.getElem?_eq_getElem hn)
    have hc : c ≠ [] := by intro hc; rw [hc] at hl; cases hl
    obtain ⟨u, t, rfl⟩ : ∃ u t, c = u :: t := by cases c with | nil => exact absurd rfl hc | cons u t => exact ⟨u, t, rfl⟩
    have h0 := World.block_lt_of_cell? _ _ (hi 0 u rfl)
    rw [add_block] at h0
    omega
  have HS := Aside0.mk hS
  have HC := Aside0.mk (put_calls x l gW gM A7 c7 g2 gf g3 gp day w0 HF.out l.l3.length [] (.slice none 0 0) _ (by simp) hS (Kd.R_nil _ _ _ _ _))
  clear hw4 hgp hgf hS BP BF hb4 J4 M4
  rw [HR2.out] at HC
  go_wp2_with (go_at_call 132; go_must (refine HC.out.mono ?_; rintro e wp ⟨rfl, hsp, htp, hqp⟩; have hfv : ∃ (fA : Option Addr) (fn fc : Nat), wp.heap[gf]? = some (.cells #[.slice fA fn fc] 25 (0, 0)) ∧ ∀ q, r = some q → Kd.R (Kd.int .i64) 3 wp w0.heap.size (okP gM gf) (.slice fA fn fc) q := (by cases r with | none => (obtain ⟨fv, h⟩ := hsp.bf; exact ⟨_, _, _, h, fun q hq => by cases hq⟩) | some q => (obtain ⟨fv, h, h2⟩ := hqp q rfl; obtain ⟨fA, fc, rfl⟩ := Kd.R_slice h2; exact ⟨_, _, _, h, fun q' hq => by cases hq; exact h2⟩)); obtain ⟨fA, fn, fc, hfv1, hfv2⟩ := hfv; have HSP := Aside0.mk hsp; have BFV := Aside0.mk hfv1; have HQ := Aside0.mk hfv2; clear hsp htp hqp hfv1 hfv2 fp ffp; have ff : wp.cell? ⟨gf, 0, none⟩ = some (.slice fA fn fc) := (blk_cell BFV.out 0).trans rfl; have fz := blk_frozen BFV.out 0))
  have ht1 : Turn (fun k => k = gM ∨ k = gf) wp (wp.setCell ⟨gf, 0, none⟩ (.slice fA fn fc)) := Turn.set (a := ⟨gf, 0, none⟩) (.inr rfl) _
  have hmf : gM ≠ gf := fun e => memo_ne HSP.out.memo BFV.out e.symm
  have HP2 := HSP.out.turn2 ht1 (HSP.out.memo.keep (Below.heap_setCell wp _ _ gM hmf)) ⟨(fA, fn, fc), blk_set BFV.out 0 _⟩
  refine bodyPost_ret (results_cell2 rfl rfl (load_slice (blk_set BFV.out 0 _))) rfl ?_
  exact ⟨_, rfl, HP2.job, HP2.memo, HP2.job.bel, fun q hq => Kd.R_mono (Kd.R_far (HQ.out q hq) (fun k hk => hk.2) _) (fun _ _ => trivial)⟩
end Go.Proofs.Ytjifalohjlihaaa.Q
end
section
namespace Go.Proofs.Ytjifalohjlihaaa.Q
set_option linter.unusedVariables false
open Go.BigFrame Go.RowKit Go.Shelf Go.Proofs.YtjifalohjlihaaaW.PrintWords Go.Proofs.YtjifalohjlihaaaW.PrintLast Go.Proofs.YtjifalohjlihaaaW.PrintMore
def SL.upTo (l : SL) (k : Nat) : SL := { l with l5 := l.l5.take k }
theorem rd_take (l : List S137) (k : Nat) (i : Int) (h0 : 0 ≤ i) (h1 : i < (l.take k).length) : rd_T137 (l.take k) i = rd_T137 l i := by
  unfold rd_T137
  rw [List.getD_eq_getElem?_getD, List.getD_eq_getElem?_getD, List.getElem?_take_of_lt (by rw [List.length_take] at h1; omega)]
theorem Valid.upTo {l : SL} (hv : Valid l) (k : Nat) : Valid (l.upTo k) := by
  refine ⟨hv.last0, hv.last5, hv.air, hv.airs, hv.shelf3, hv.shelves, hv.cake5, hv.cakes, hv.put, hv.puts, ?_, fun i h0 h1 => ?_⟩
  · have := hv.weight5
    show (l.l5.take k).length ≤ 5
    rw [List.length_take]; omega
  · have h1' : i < (l.l5.take k).length := h1
    have h2 : i < l.l5.length := by rw [List.length_take] at h1'; omega
    have h3 := hv.weights i h0 h2
    show _ ∧ _
    rw [show (l.upTo k).l5 = l.l5.take k from rfl, rd_take _ _ _ h0 h1']
    exact h3
def SL.firstFrom (l : SL) : Nat → Nat → Option Int
  | 0, _ => none
  | k + 1, i => if (l.upTo (i + 1)).possible [] = false then some i else l.firstFrom k (i + 1)
def SL.firstErr (l : SL) : Int := if l.fault ≠ 0 then l.fault else if l.firstFrom l.l5.length 0 = none then 7 else 0
def SL.firstOf (l : SL) : Int := if l.firstErr = 0 then (l.firstFrom l.l5.length 0).getD 0 else 0
set_option maxRecDepth 100000 in
set_option maxHeartbeats 6400000 in
theorem First.calls (x : SA) (l : SL) (w : World) (hr : Rd w x l) :
    Calls Try.prog 37 #[.agg (x.cells l)] w fun e w' => e = .returned (.tuple #[.int .i64 l.firstOf, .int .i64 l.firstErr]) ∧ Below w.heap.size w w' := by
  obtain ⟨A1, c1, A2, c2, A3, c3, A4, c4, A5, c5⟩ := x
  have HB := Aside0.mk (Below.refl w.heap.size w)
  have HR := Aside0.mk hr
  obtain ⟨er, her⟩ : ∃ er, er = l.fault := ⟨_, rfl⟩
  obtain ⟨dv, hdv⟩ : ∃ dv, dv = l.firstOf := ⟨_, rfl⟩
  obtain ⟨de, hde⟩ : ∃ de, de = l.firstErr := ⟨_, rfl⟩
  rw [← hdv, ← hde]
  have HDE := Aside0.mk (show de = if er ≠ 0 then er else if l.firstFrom l.l5.length 0 = none then 7 else 0 by rw [hde, her]; rfl)
  have HDV := Aside0.mk (show dv = if de = 0 then (l.firstFrom l.l5.length 0).getD 0 else 0 by rw [hdv, hde]; rfl)
  have HER := Aside0.mk her
  clear hr her hdv hde
  go_enter Try.func37, Try.ntmps37
  by_cases hz : er = 0
  · have hzb : (l.fault != 0) = false := by rw [← HER.out, hz]; rfl
    have HZ := Aside0.mk hz
    have HV := Aside0.mk (valid_of (HER.out.symm.trans hz))
    have h55 := HV.out.weight5
    have h55c := HR.out.h5
    clear hz
    go_upto_region 5 with (first | ((with_reducible refine gate_dst (N := 1) rfl ?_); refine box_event ?hg (N := 1) ?hd (cs := #[.int .i64 l.a0, .slice A1 l.l1.length c1, .slice A2 l.l2.length c2, .slice A3 l.l3.length c3, .slice A4 l.l4.length c4, .slice A5 l.l5.length c5]) (t := 39) ?hr ?_; (case hd => rfl); (case hg => rfl); (case hr => first | (go_simp; done) | (go_simp; rfl)); intro g1 hg_ w1 hbx_ hb_; have BK1 := Aside0.mk hbx_; have g1ge : w.heap.size ≤ g1 := (by have := below_size HB.out; omega); have g1GE := Aside0.mk g1ge; clear g1ge; have HBn := Aside0.mk (below_step HB.out hb_); clear HB hg_ hb_ hbx_; have HB := HBn; clear HBn; have f0 : w1.cell? ⟨g1, 0, none⟩ = some (.int .i64 l.a0) := (blk_cell BK1.out 0).trans rfl; have f1 : w1.cell? ⟨g1, 1, none⟩ = some (.slice A1 l.l1.length c1) := (blk_cell BK1.out 1).trans rfl; have f2 : w1.cell? ⟨g1, 2, none⟩ = some (.slice A2 l.l2.length c2) := (blk_cell BK1.out 2).trans rfl; have f3 : w1.cell? ⟨g1, 3, none⟩ = some (.slice A3 l.l3.length c3) := (blk_cell BK1.out 3).trans rfl; have f4 : w1.cell? ⟨g1, 4, none⟩ = some (.slice A4 l.l4.length c4) := (blk_cell BK1.out 4).trans rfl; have f5 : w1.cell? ⟨g1, 5, none⟩ = some (.slice A5 l.l5.length c5) := (blk_cell BK1.out 5).trans rfl) | (go_at_call 56; go_must (refine (CheckLoft.call ⟨A1, c1, A2, c2, A3, c3, A4, c4, A5, c5⟩ l _ (HR.out.below HB.out)).mono ?_; clear f0 f1 f2 f3 f4 f5; rintro e wE ⟨rfl, hbe⟩; replace BK1 := Aside0.mk (blk_below BK1.out hbe); replace HB := Aside0.mk (below_step HB.out hbe); clear hbe; have f0 : wE.cell? ⟨g1, 0, none⟩ = some (.int .i64 l.a0) := (blk_cell BK1.out 0).trans rfl; have f1 : wE.cell? ⟨g1, 1, none⟩ = some (.slice A1 l.l1.length c1) := (blk_cell BK1.out 1).trans rfl; have f2 : wE.cell? ⟨g1, 2, none⟩ = some (.slice A2 l.l2.length c2) := (blk_cell BK1.out 2).trans rfl; have f3 : wE.cell? ⟨g1, 3, none⟩ = some (.slice A3 l.l3.length c3) := (blk_cell BK1.out 3).trans rfl; have f4 : wE.cell? ⟨g1, 4, none⟩ = some (.slice A4 l.l4.length c4) := (blk_cell BK1.out 4).trans rfl; have f5 : wE.cell? ⟨g1, 5, none⟩ = some (.slice A5 l.l5.length c5) := (blk_cell BK1.out 5).trans rfl)))
    have hlt1 := blk_lt BK1.out
    obtain ⟨g5, hg_⟩ : ∃ g_, g_ = wE.heap.size := ⟨_, rfl⟩
    obtain ⟨w5, hw_⟩ : ∃ w_, w_ = World.alloc wE (Obj.cells #[.int .i64 l.a0, .slice A1 l.l1.length c1, .slice A2 l.l2.length c2, .slice A3 l.l3.length c3, .slice A4 l.l4.length c4, .slice A5 l.l5.length c5] 39) := ⟨_, rfl⟩
    have hb_ : Below wE.heap.size wE w5 := by rw [hw_]; exact below_alloc (Below.refl _ _) _
    have BK5 : Aside0 (w5.heap[g5]? = some (Obj.cells #[.int .i64 l.a0, .slice A1 l.l1.length c1, .slice A2 l.l2.length c2, .slice A3 l.l3.length c3, .slice A4 l.l4.length c4, .slice A5 l.l5.length c5] 39)) := ⟨by rw [hw_, hg_]; exact blk_new _ _⟩
    have g5GE : Aside0 (w.heap.size ≤ g5) := ⟨by have := below_size HB.out; rw [hg_]; exact this⟩
    replace BK1 := Aside0.mk (blk_below BK1.out hb_)
    have g15_ : g1 ≠ g5 := by omega
    replace HB := Aside0.mk (below_step HB.out hb_)
    rw [← hw_, ← hg_]
    clear hw_ hg_ hb_
    clear f0 f1 f2 f3 f4 f5
    have G15 := Aside0.mk (show g1 ≠ g5 from g15_)
    clear g15_
    have f15 : w5.cell? ⟨g1, 5, none⟩ = some (.slice A5 l.l5.length c5) := (blk_cell BK1.out 5).trans rfl
    go_wp2_with fail
    clear f15
    go_loopw [16] (fun v16 wr => ∃ (i m : Nat), v16 = .int .i64 (i : Int) ∧ i ≤ l.l5.length ∧ m ≤ l.l5.length ∧ Aside0 (l.firstFrom (l.l5.length - i) i = l.firstFrom l.l5.length 0) ∧ Aside0 (wr.heap[g1]? = some (.cells #[.int .i64 l.a0, .slice A1 l.l1.length c1, .slice A2 l.l2.length c2, .slice A3 l.l3.length c3, .slice A4 l.l4.length c4, .slice A5 l.l5.length c5] 39 (0, 0))) ∧ Aside0 (wr.heap[g5]? = some (.cells #[.int .i64 l.a0, .slice A1 l.l1.length c1, .slice A2 l.l2.length c2, .slice A3 l.l3.length c3, .slice A4 l.l4.length c4, .slice A5 m c5] 39 (0, 0))) ∧ Aside0 (Below w.heap.size w wr)) (fun v16 _ => (l.l5.length - intOf v16).toNat)
    case atStart => exact ⟨0, l.l5.length, rfl, by omega, Nat.le_refl _, ⟨rfl⟩, BK1, BK5, HB⟩
    case round =>
      clear BK1 BK5 HB
      obtain ⟨i, m, rfl, hi, hm, HS, BK1, BK5, HB⟩ := hrel
      by_cases hlt : i < l.l5.length
      · have f15 : wr.cell? ⟨g1, 5, none⟩ = some (.slice A5 l.l5.length c5) := (blk_cell BK1.out 5).trans rfl
        have f55 : wr.cell? ⟨g5, 5, none⟩ = some (.slice A5 m c5) := (blk_cell BK5.out 5).trans rfl
        have ff := blk_frozen BK5.out 5
        obtain ⟨ti, hti⟩ : ∃ ti, Try.prog.info? 137 = some ti := Option.isSome_iff_exists.1 (by kernel_rfl)
        have hcut := cut_to 37 137 .i64 Try.underlying37 hti A5 l.l5.length c5 ((i : Int) + 1) (by omega) (by omega) h55c
        have htn : ((i : Int) + 1).toNat = i + 1 := by omega
        rw [htn] at hcut
        have hwi : IntKind.i64.wrap ((i : Int) + 1) = (i : Int) + 1 := IntWalk.i64_in _ (by omega)
        have hltb : ((i : Int) < (l.l5.length : Int)) := by omega
        clear hti htn
        go_upto_region 9 with (fail)
        obtain ⟨ws, hws⟩ : ∃ ws, ws = wr.setCell ⟨g5, 5, none⟩ (.slice A5 (i + 1) c5) := ⟨_, rfl⟩
        have BK5s : ws.heap[g5]? = some (.cells #[.int .i64 l.a0, .slice A1 l.l1.length c1, .slice A2 l.l2.length c2, .slice A3 l.l3.length c3, .slice A4 l.l4.length c4, .slice A5 (i + 1) c5] 39 (0, 0)) := by rw [hws]; exact blk_set BK5.out 5 _
        have BK1s : ws.heap[g1]? = some (.cells #[.int .i64 l.a0, .slice A1 l.l1.length c1, .slice A2 l.l2.length c2, .slice A3 l.l3.length c3, .slice A4 l.l4.length c4, .slice A5 l.l5.length c5] 39 (0, 0)) := by rw [hws]; exact blk_far BK1.out (show g1 ≠ g5 from G15.out) _
        have hbs : Below w.heap.size w ws := by rw [hws]; exact below_set HB.out g5GE.out
        replace BK1 := Aside0.mk BK1s
        replace BK5 := Aside0.mk BK5s
        replace HB := Aside0.mk hbs
        rw [← hws]
        clear hws BK1s BK5s hbs f15 f55 ff hcut
        have hl : (l.l5.take (i + 1)).length = i + 1 := by rw [List.length_take]; omega
        obtain ⟨pb, hpb⟩ : ∃ pb, pb = (l.upTo (i + 1)).possible [] := ⟨_, rfl⟩
        have hrw := HR.out.below HB.out
        have hcall : Calls Try.prog 86 #[.agg #[.int .i64 l.a0, .slice A1 l.l1.length c1, .slice A2 l.l2.length c2, .slice A3 l.l3.length c3, .slice A4 l.l4.length c4, .slice A5 (i + 1) c5], .slice none 0 0] ws fun e w' => e = .returned (.bool pb) ∧ Below ws.heap.size ws w' := by
          have h := L_possible.calls ⟨A1, c1, A2, c2, A3, c3, A4, c4, A5, c5⟩ (l.upTo (i + 1)) none 0 [] ws ⟨hrw.r1, hrw.r2, hrw.r3, hrw.r4, Kd.C_take hrw.r5 (by omega), hrw.h1, hrw.h2, hrw.h3, hrw.h4, by show (l.l5.take (i + 1)).length ≤ c5; omega⟩ (HV.out.upTo _) (Kd.C_nil _ _) (by simp) (by simp)
          rw [← hpb] at h
          simp only [SA.cells, SL.upTo, hl, List.length_nil] at h
          exact h
        have HC := Aside0.mk hcall
        have hstep : l.firstFrom l.l5.length 0 = if pb = false then some (i : Int) else l.firstFrom (l.l5.length - (i + 1)) (i + 1) := by
          rw [← HS.out, hpb, show l.l5.length - i = (l.l5.length - (i + 1)) + 1 by omega]; rfl
        have HST := Aside0.mk hstep
        have f0 : ws.cell? ⟨g5, 0, none⟩ = some (.int .i64 l.a0) := (blk_cell BK5.out 0).trans rfl
        have f1 : ws.cell? ⟨g5, 1, none⟩ = some (.slice A1 l.l1.length c1) := (blk_cell BK5.out 1).trans rfl
        have f2 : ws.cell? ⟨g5, 2, none⟩ = some (.slice A2 l.l2.length c2) := (blk_cell BK5.out 2).trans rfl
        have f3 : ws.cell? ⟨g5, 3, none⟩ = some (.slice A3 l.l3.length c3) := (blk_cell BK5.out 3).trans rfl
        have f4 : ws.cell? ⟨g5, 4, none⟩ = some (.slice A4 l.l4.length c4) := (blk_cell BK5.out 4).trans rfl
        have f5 : ws.cell? ⟨g5, 5, none⟩ = some (.slice A5 (i + 1) c5) := (blk_cell BK5.out 5).trans rfl
        clear hl hpb hrw hcall hstep HS
        cases pb with
        | false =>
          have HE2 := Aside0.mk (show de = 0 by rw [HDE.out, if_neg (by rw [HZ.out]; simp), HST.out, if_pos rfl]; simp)
          have HV2 := Aside0.mk (show dv = i by rw [HDV.out, if_pos HE2.out, HST.out, if_pos rfl]; rfl)
          go_wp2_with (go_at_call 86; go_must (refine HC.out.mono ?_; clear f0 f1 f2 f3 f4 f5; rintro e wp ⟨rfl, hb⟩; replace HB := Aside0.mk (below_step HB.out hb); clear hb))
          go_ret2
          exact ⟨by rw [HV2.out, HE2.out]; rfl, HB.out⟩
        | true =>
          go_wp2_with (go_at_call 86; go_must (refine HC.out.mono ?_; clear f0 f1 f2 f3 f4 f5; rintro e wp ⟨rfl, hb⟩; replace BK1 := Aside0.mk (blk_below BK1.out hb); replace BK5 := Aside0.mk (blk_below BK5.out hb); replace HB := Aside0.mk (below_step HB.out hb); clear hb))
          exact ⟨⟨i + 1, i + 1, by simp, by omega, by omega, ⟨by rw [HST.out, if_neg (by simp)]⟩, BK1, BK5, HB⟩, by simp [intOf]; omega⟩
      · have hie : i = l.l5.length := by omega
        have hnone : l.firstFrom l.l5.length 0 = none := by rw [← HS.out, hie, Nat.sub_self]; rfl
        have HE2 := Aside0.mk (show de = 7 by rw [HDE.out, if_neg (by rw [HZ.out]; simp), if_pos hnone])
        have HV2 := Aside0.mk (show dv = 0 by rw [HDV.out, HE2.out]; rfl)
        clear hie hnone
        go_wp2
        go_ret2
        exact ⟨by rw [HV2.out, HE2.out]; rfl, HB.out⟩
  · have hzb : (l.fault != 0) = true := by rw [← HER.out]; simpa using hz
    have HZ := Aside0.mk hz
    have HE2 := Aside0.mk (show de = er by rw [HDE.out, if_pos hz])
    have HV2 := Aside0.mk (show dv = 0 by rw [HDV.out, HE2.out, if_neg hz])
    clear hz
    go_wp2_with (first | ((with_reducible refine gate_dst (N := 1) rfl ?_); refine box_event ?hg (N := 1) ?hd (cs := #[.int .i64 l.a0, .slice A1 l.l1.length c1, .slice A2 l.l2.length c2, .slice A3 l.l3.length c3, .slice A4 l.l4.length c4, .slice A5 l.l5.length c5]) (t := 39) ?hr ?_; (case hd => rfl); (case hg => rfl); (case hr => first | (go_simp; done) | (go_simp; rfl)); intro g1 hg_ w1 hbx_ hb_; have BK1 := Aside0.mk hbx_; have g1ge : w.heap.size ≤ g1 := (by have := below_size HB.out; omega); have g1GE := Aside0.mk g1ge; clear g1ge; have HBn := Aside0.mk (below_step HB.out hb_); clear HB hg_ hb_ hbx_; have HB := HBn; clear HBn; have f0 : w1.cell? ⟨g1, 0, none⟩ = some (.int .i64 l.a0) := (blk_cell BK1.out 0).trans rfl; have f1 : w1.cell? ⟨g1, 1, none⟩ = some (.slice A1 l.l1.length c1) := (blk_cell BK1.out 1).trans rfl; have f2 : w1.cell? ⟨g1, 2, none⟩ = some (.slice A2 l.l2.length c2) := (blk_cell BK1.out 2).trans rfl; have f3 : w1.cell? ⟨g1, 3, none⟩ = some (.slice A3 l.l3.length c3) := (blk_cell BK1.out 3).trans rfl; have f4 : w1.cell? ⟨g1, 4, none⟩ = some (.slice A4 l.l4.length c4) := (blk_cell BK1.out 4).trans rfl; have f5 : w1.cell? ⟨g1, 5, none⟩ = some (.slice A5 l.l5.length c5) := (blk_cell BK1.out 5).trans rfl) | (go_at_call 56; go_must (refine (CheckLoft.call ⟨A1, c1, A2, c2, A3, c3, A4, c4, A5, c5⟩ l _ (HR.out.below HB.out)).mono ?_; clear f0 f1 f2 f3 f4 f5; rintro e wE ⟨rfl, hbe⟩; replace BK1 := Aside0.mk (blk_below BK1.out hbe); replace HB := Aside0.mk (below_step HB.out hbe); clear hbe; have f0 : wE.cell? ⟨g1, 0, none⟩ = some (.int .i64 l.a0) := (blk_cell BK1.out 0).trans rfl; have f1 : wE.cell? ⟨g1, 1, none⟩ = some (.slice A1 l.l1.length c1) := (blk_cell BK1.out 1).trans rfl; have f2 : wE.cell? ⟨g1, 2, none⟩ = some (.slice A2 l.l2.length c2) := (blk_cell BK1.out 2).trans rfl; have f3 : wE.cell? ⟨g1, 3, none⟩ = some (.slice A3 l.l3.length c3) := (blk_cell BK1.out 3).trans rfl; have f4 : wE.cell? ⟨g1, 4, none⟩ = some (.slice A4 l.l4.length c4) := (blk_cell BK1.out 4).trans rfl; have f5 : wE.cell? ⟨g1, 5, none⟩ = some (.slice A5 l.l5.length c5) := (blk_cell BK1.out 5).trans rfl)))
    go_ret2
    exact ⟨by rw [HV2.out, HE2.out, HER.out]; rfl, HB.out⟩
end Go.Proofs.Ytjifalohjlihaaa.Q
end
section
namespace Go.Proofs.Ytjifalohjlihaaa.Q
set_option linter.unusedVariables false
open Go.BigFrame Go.RowKit Go.Shelf Go.Proofs.YtjifalohjlihaaaW.PrintWords Go.Proofs.YtjifalohjlihaaaW.PrintLast Go.Proofs.YtjifalohjlihaaaW.PrintMore
def SL.byErr (l : SL) (day : Int) : Int := if l.err (decide (0 ≤ day ∧ day ≤ l.a0)) ≠ 0 then l.err (decide (0 ≤ day ∧ day ≤ l.a0)) else if l.placeBy day = none then 10 else 0
def SL.byOf (l : SL) (day : Int) : List Int := if l.byErr day = 0 then (l.placeBy day).getD [] else []
set_option maxRecDepth 100000 in
set_option maxHeartbeats 6400000 in
theorem By.calls (x : SA) (l : SL) (day : Int) (w : World) (hr : Rd w x l) :
    Calls Try.prog 64 #[.agg (x.cells l), .int .i64 day] w fun e w' => ∃ v, e = .returned (.tuple #[v, .int .i64 (l.byErr day)]) ∧ Kd.R (Kd.int .i64) 3 w' w.heap.size (fun _ => True) v (l.byOf day) ∧ Below w.heap.size w w' := by
  obtain ⟨A1, c1, A2, c2, A3, c3, A4, c4, A5, c5⟩ := x
  have HB := Aside0.mk (Below.refl w.heap.size w)
  have HR := Aside0.mk hr
  obtain ⟨b, hbv⟩ : ∃ b, b = (decide (0 ≤ day ∧ day ≤ l.a0)) := ⟨_, rfl⟩
  obtain ⟨er, her⟩ : ∃ er, er = l.err b := ⟨_, rfl⟩
  obtain ⟨dv, hdv⟩ : ∃ dv, dv = l.byOf day := ⟨_, rfl⟩
  obtain ⟨de, hde⟩ : ∃ de, de = l.byErr day := ⟨_, rfl⟩
  rw [← hdv, ← hde]
  have HDE := Aside0.mk (show de = if er ≠ 0 then er else if l.placeBy day = none then 10 else 0 by rw [hde, her, hbv]; rfl)
  have HDV := Aside0.mk (show dv = if de = 0 then (l.placeBy day).getD [] else [] by rw [hdv, hde]; rfl)
  have HBV := Aside0.mk her
  have HBB := Aside0.mk hbv
  clear hr her hbv hdv hde
  go_enter Try.func64, Try.ntmps64
  by_cases hz : er = 0
  · have hzb : (er != 0) = false := by rw [hz]; rfl
    have HZ := Aside0.mk hz
    obtain ⟨hf0, _, hne0⟩ := err_zero (HBV.out.symm.trans hz)
    have HF := Aside0.mk hf0
    have HNE := Aside0.mk hne0
    clear hz hf0 hne0
    obtain ⟨r, hr⟩ : ∃ r, r = l.placeBy day := ⟨_, rfl⟩
    have HRE := Aside0.mk hr
    clear hr
    cases r with
    | some q =>
      have hb1 : (some q).isSome = true := rfl
      have HE2 := Aside0.mk (show de = 0 by rw [HDE.out, if_neg (by rw [HZ.out]; simp), ← HRE.out]; simp)
      have HV2 := Aside0.mk (show dv = q by rw [HDV.out, if_pos HE2.out, ← HRE.out]; rfl)
      go_wp2_with (first | ((with_reducible refine gate_dst (N := 2) rfl ?_); refine box_event ?hg (N := 2) ?hd (cs := #[.int .i64 l.a0, .slice A1 l.l1.length c1, .slice A2 l.l2.length c2, .slice A3 l.l3.length c3, .slice A4 l.l4.length c4, .slice A5 l.l5.length c5]) (t := 39) ?hr ?_; (case hd => rfl); (case hg => rfl); (case hr => first | (go_simp; done) | (go_simp; rfl)); intro g2 hg_ w2 hbx_ hb_; have BK2 := Aside0.mk hbx_; have g2ge : w.heap.size ≤ g2 := (by have := below_size HB.out; omega); have g2GE := Aside0.mk g2ge; clear g2ge; have HBn := Aside0.mk (below_step HB.out hb_); clear HB hg_ hb_ hbx_; have HB := HBn; clear HBn) | ((with_reducible refine gate_dst (N := 3) rfl ?_); refine box_event ?hg (N := 3) ?hd (cs := #[.int .i64 day]) (t := 3) ?hr ?_; (case hd => rfl); (case hg => rfl); (case hr => first | (go_simp; done) | (go_simp; rfl)); intro g3 hg_ w3 hbx_ hb_; have BK3 := Aside0.mk hbx_; have g3ge : w.heap.size ≤ g3 := (by have := below_size HB.out; omega); have g3GE := Aside0.mk g3ge; clear g3ge; have HBn := Aside0.mk (below_step HB.out hb_); have z_ := Aside0.mk (blk_below BK2.out hb_); clear BK2; have BK2 := z_; clear z_; clear HB hg_ hb_ hbx_; have HB := HBn; clear HBn; have f0 : w3.cell? ⟨g2, 0, none⟩ = some (.int .i64 l.a0) := (blk_cell BK2.out 0).trans rfl; have f1 : w3.cell? ⟨g2, 1, none⟩ = some (.slice A1 l.l1.length c1) := (blk_cell BK2.out 1).trans rfl; have f2 : w3.cell? ⟨g2, 2, none⟩ = some (.slice A2 l.l2.length c2) := (blk_cell BK2.out 2).trans rfl; have f3 : w3.cell? ⟨g2, 3, none⟩ = some (.slice A3 l.l3.length c3) := (blk_cell BK2.out 3).trans rfl; have f4 : w3.cell? ⟨g2, 4, none⟩ = some (.slice A4 l.l4.length c4) := (blk_cell BK2.out 4).trans rfl; have f5 : w3.cell? ⟨g2, 5, none⟩ = some (.slice A5 l.l5.length c5) := (blk_cell BK2.out 5).trans rfl) | (go_at_call 72; go_must (refine (L_asked.calls ⟨A1, c1, A2, c2, A3, c3, A4, c4, A5, c5⟩ l 112 #[.pointer (some ⟨g3, 0, none⟩), .pointer (some ⟨g2, 0, none⟩)] _ _ (HR.out.below HB.out) (fun _ W hb => by1_call ⟨A1, c1, A2, c2, A3, c3, A4, c4, A5, c5⟩ l day g3 g2 W (blk_below BK3.out hb) (blk_below BK2.out hb)) (fun w => enters_ Try.func112 (by kernel_rfl) rfl _ w)).mono ?_; clear f0 f1 f2 f3 f4 f5; rintro e wA hA; have hbA := hA.1; replace hA := job_of (HR.out.below HB.out) hA; rw [← HBB.out, ← HBV.out] at hA; replace BK2 := Aside0.mk (blk_below BK2.out hbA); replace BK3 := Aside0.mk (blk_below BK3.out hbA); rcases hA with ⟨hz0, rfl, _⟩ | ⟨hz0, gW, gM, A7, c7, rfl, hJ, hM⟩; exact absurd HZ.out hz0; have J := Aside0.mk hJ; have HM := Aside0.mk hM; clear hbA hz0 hJ hM; have HC := Aside0.mk (place_calls _ l gW gM A7 c7 day w3 wA J.out HM.out HF.out HNE.out); rw [← HRE.out, hb1] at HC; have fL : wA.cell? ⟨g3, 0, none⟩ = some (.int .i64 day) := (blk_cell BK3.out 0).trans rfl)) | (go_at_call 110; go_must (refine HC.out.mono ?_; rintro e wp ⟨v, rfl, hj, hm, hbp, hq⟩)))
      go_ret2
      exact ⟨v, by rw [HE2.out]; rfl, by rw [HV2.out]; exact Kd.R_lower (hq q rfl) HB.out.size, below_step HB.out hj.bel⟩
    | none =>
      have hb1 : (none : Option (List Int)).isSome = false := rfl
      have HE2 := Aside0.mk (show de = 10 by rw [HDE.out, if_neg (by rw [HZ.out]; simp), ← HRE.out, if_pos rfl])
      have HV2 := Aside0.mk (show dv = [] by rw [HDV.out, HE2.out]; rfl)
      go_wp2_with (first | ((with_reducible refine gate_dst (N := 2) rfl ?_); refine box_event ?hg (N := 2) ?hd (cs := #[.int .i64 l.a0, .slice A1 l.l1.length c1, .slice A2 l.l2.length c2, .slice A3 l.l3.length c3, .slice A4 l.l4.length c4, .slice A5 l.l5.length c5]) (t := 39) ?hr ?_; (case hd => rfl); (case hg => rfl); (case hr => first | (go_simp; done) | (go_simp; rfl)); intro g2 hg_ w2 hbx_ hb_; have BK2 := Aside0.mk hbx_; have g2ge : w.heap.size ≤ g2 := (by have := below_size HB.out; omega); have g2GE := Aside0.mk g2ge; clear g2ge; have HBn := Aside0.mk (below_step HB.out hb_); clear HB hg_ hb_ hbx_; have HB := HBn; clear HBn) | ((with_reducible refine gate_dst (N := 3) rfl ?_); refine box_event ?hg (N := 3) ?hd (cs := #[.int .i64 day]) (t := 3) ?hr ?_; (case hd => rfl); (case hg => rfl); (case hr => first | (go_simp; done) | (go_simp; rfl)); intro g3 hg_ w3 hbx_ hb_; have BK3 := Aside0.mk hbx_; have g3ge : w.heap.size ≤ g3 := (by have := below_size HB.out; omega); have g3GE := Aside0.mk g3ge; clear g3ge; have HBn := Aside0.mk (below_step HB.out hb_); have z_ := Aside0.mk (blk_below BK2.out hb_); clear BK2; have BK2 := z_; clear z_; clear HB hg_ hb_ hbx_; have HB := HBn; clear HBn; have f0 : w3.cell? ⟨g2, 0, none⟩ = some (.int .i64 l.a0) := (blk_cell BK2.out 0).trans rfl; have f1 : w3.cell? ⟨g2, 1, none⟩ = some (.slice A1 l.l1.length c1) := (blk_cell BK2.out 1).trans rfl; have f2 : w3.cell? ⟨g2, 2, none⟩ = some (.slice A2 l.l2.length c2) := (blk_cell BK2.out 2).trans rfl; have f3 : w3.cell? ⟨g2, 3, none⟩ = some (.slice A3 l.l3.length c3) := (blk_cell BK2.out 3).trans rfl; have f4 : w3.cell? ⟨g2, 4, none⟩ = some (.slice A4 l.l4.length c4) := (blk_cell BK2.out 4).trans rfl; have f5 : w3.cell? ⟨g2, 5, none⟩ = some (.slice A5 l.l5.length c5) := (blk_cell BK2.out 5).trans rfl) | (go_at_call 72; go_must (refine (L_asked.calls ⟨A1, c1, A2, c2, A3, c3, A4, c4, A5, c5⟩ l 112 #[.pointer (some ⟨g3, 0, none⟩), .pointer (some ⟨g2, 0, none⟩)] _ _ (HR.out.below HB.out) (fun _ W hb => by1_call ⟨A1, c1, A2, c2, A3, c3, A4, c4, A5, c5⟩ l day g3 g2 W (blk_below BK3.out hb) (blk_below BK2.out hb)) (fun w => enters_ Try.func112 (by kernel_rfl) rfl _ w)).mono ?_; clear f0 f1 f2 f3 f4 f5; rintro e wA hA; have hbA := hA.1; replace hA := job_of (HR.out.below HB.out) hA; rw [← HBB.out, ← HBV.out] at hA; replace BK2 := Aside0.mk (blk_below BK2.out hbA); replace BK3 := Aside0.mk (blk_below BK3.out hbA); rcases hA with ⟨hz0, rfl, _⟩ | ⟨hz0, gW, gM, A7, c7, rfl, hJ, hM⟩; exact absurd HZ.out hz0; have J := Aside0.mk hJ; have HM := Aside0.mk hM; clear hbA hz0 hJ hM; have HC := Aside0.mk (place_calls _ l gW gM A7 c7 day w3 wA J.out HM.out HF.out HNE.out); rw [← HRE.out, hb1] at HC; have fL : wA.cell? ⟨g3, 0, none⟩ = some (.int .i64 day) := (blk_cell BK3.out 0).trans rfl)) | (go_at_call 110; go_must (refine HC.out.mono ?_; rintro e wp ⟨v, rfl, hj, hm, hbp, hq⟩)))
      go_ret2
      exact ⟨_, by rw [HE2.out]; rfl, by rw [HV2.out]; exact Kd.R_nil _ _ _ _ _, below_step HB.out hj.bel⟩
  · have hzb : (er != 0) = true := by simpa using hz
    have HZ := Aside0.mk hz
    have HE2 := Aside0.mk (show de = er by rw [HDE.out, if_pos hz])
    have HV2 := Aside0.mk (show dv = [] by rw [HDV.out, HE2.out, if_neg hz])
    clear hz
    go_wp2_with (first | ((with_reducible refine gate_dst (N := 2) rfl ?_); refine box_event ?hg (N := 2) ?hd (cs := #[.int .i64 l.a0, .slice A1 l.l1.length c1, .slice A2 l.l2.length c2, .slice A3 l.l3.length c3, .slice A4 l.l4.length c4, .slice A5 l.l5.length c5]) (t := 39) ?hr ?_; (case hd => rfl); (case hg => rfl); (case hr => first | (go_simp; done) | (go_simp; rfl)); intro g2 hg_ w2 hbx_ hb_; have BK2 := Aside0.mk hbx_; have g2ge : w.heap.size ≤ g2 := (by have := below_size HB.out; omega); have g2GE := Aside0.mk g2ge; clear g2ge; have HBn := Aside0.mk (below_step HB.out hb_); clear HB hg_ hb_ hbx_; have HB := HBn; clear HBn) | ((with_reducible refine gate_dst (N := 3) rfl ?_); refine box_event ?hg (N := 3) ?hd (cs := #[.int .i64 day]) (t := 3) ?hr ?_; (case hd => rfl); (case hg => rfl); (case hr => first | (go_simp; done) | (go_simp; rfl)); intro g3 hg_ w3 hbx_ hb_; have BK3 := Aside0.mk hbx_; have g3ge : w.heap.size ≤ g3 := (by have := below_size HB.out; omega); have g3GE := Aside0.mk g3ge; clear g3ge; have HBn := Aside0.mk (below_step HB.out hb_); have z_ := Aside0.mk (blk_below BK2.out hb_); clear BK2; have BK2 := z_; clear z_; clear HB hg_ hb_ hbx_; have HB := HBn; clear HBn; have f0 : w3.cell? ⟨g2, 0, none⟩ = some (.int .i64 l.a0) := (blk_cell BK2.out 0).trans rfl; have f1 : w3.cell? ⟨g2, 1, none⟩ = some (.slice A1 l.l1.length c1) := (blk_cell BK2.out 1).trans rfl; have f2 : w3.cell? ⟨g2, 2, none⟩ = some (.slice A2 l.l2.length c2) := (blk_cell BK2.out 2).trans rfl; have f3 : w3.cell? ⟨g2, 3, none⟩ = some (.slice A3 l.l3.length c3) := (blk_cell BK2.out 3).trans rfl; have f4 : w3.cell? ⟨g2, 4, none⟩ = some (.slice A4 l.l4.length c4) := (blk_cell BK2.out 4).trans rfl; have f5 : w3.cell? ⟨g2, 5, none⟩ = some (.slice A5 l.l5.length c5) := (blk_cell BK2.out 5).trans rfl) | (go_at_call 72; go_must (refine (L_asked.calls ⟨A1, c1, A2, c2, A3, c3, A4, c4, A5, c5⟩ l 112 #[.pointer (some ⟨g3, 0, none⟩), .pointer (some ⟨g2, 0, none⟩)] _ _ (HR.out.below HB.out) (fun _ W hb => by1_call ⟨A1, c1, A2, c2, A3, c3, A4, c4, A5, c5⟩ l day g3 g2 W (blk_below BK3.out hb) (blk_below BK2.out hb)) (fun w => enters_ Try.func112 (by kernel_rfl) rfl _ w)).mono ?_; clear f0 f1 f2 f3 f4 f5; rintro e wA hA; have hbA := hA.1; replace hA := job_of (HR.out.below HB.out) hA; rw [← HBB.out, ← HBV.out] at hA; replace BK2 := Aside0.mk (blk_below BK2.out hbA); replace BK3 := Aside0.mk (blk_below BK3.out hbA); rcases hA with ⟨hz0, rfl, _⟩ | ⟨hz0, gW, gM, A7, c7, rfl, hJ, hM⟩; rotate_left; exact absurd hz0 HZ.out; replace HB := Aside0.mk (below_step HB.out hbA); clear hbA hz0)))
    go_ret2
    exact ⟨_, by rw [HE2.out]; rfl, by rw [HV2.out]; exact Kd.R_nil _ _ _ _ _, HB.out⟩
end Go.Proofs.Ytjifalohjlihaaa.Q
end
section
namespace Go.Proofs.Ytjifalohjlihaaa.Q
set_option linter.unusedVariables false
open Go.BigFrame Go.RowKit Go.Shelf Go.Proofs.YtjifalohjlihaaaW.PrintWords Go.Proofs.YtjifalohjlihaaaW.PrintLast Go.Proofs.YtjifalohjlihaaaW.PrintMore
def SL.provesFrom (l : SL) (place : List Int) (done : Int) : Nat → Int → Bool
  | 0, _ => true
  | k + 1, i => if l.good i (rd place i) = 12 ∨ done < l.good i (rd place i) then false else l.provesFrom place done k (i + 1)
def SL.proves (l : SL) (place : List Int) (done : Int) : Bool := if l.err (decide (l.isPlace place)) ≠ 0 then false else if done < 0 then false else l.provesFrom place done place.length 0
set_option maxRecDepth 100000 in
set_option maxHeartbeats 6400000 in
theorem ProvePlace.calls (x : SA) (l : SL) (B : Option Addr) (cB : Nat) (place : List Int) (done : Int) (w : World) (hr : Rd w x l) (hB : Kd.C (Kd.int .i64) w B place.length place) (hcB : place.length ≤ cB) :
    Calls Try.prog 61 #[.agg (x.cells l), .slice B place.length cB, .int .i64 done] w fun e w' => e = .returned (.bool (l.proves place done)) ∧ Below w.heap.size w w' := by
  obtain ⟨A1, c1, A2, c2, A3, c3, A4, c4, A5, c5⟩ := x
  have HB := Aside0.mk (Below.refl w.heap.size w)
  have HR := Aside0.mk hr
  have HRB := Aside0.mk hB
  obtain ⟨b, hbv⟩ : ∃ b, b = (decide (l.isPlace place)) := ⟨_, rfl⟩
  obtain ⟨er, her⟩ : ∃ er, er = l.err b := ⟨_, rfl⟩
  obtain ⟨dv, hdv⟩ : ∃ dv, dv = l.proves place done := ⟨_, rfl⟩
  rw [← hdv]
  have HDV := Aside0.mk (show dv = if er ≠ 0 then false else if done < 0 then false else l.provesFrom place done place.length 0 by rw [hdv, her, hbv]; rfl)
  have HBV := Aside0.mk her
  have HBB := Aside0.mk hbv
  clear hr hB her hbv hdv
  go_enter Try.func61, Try.ntmps61
  by_cases hz : er = 0
  · have hzb : (er != 0) = false := by rw [hz]; rfl
    have HZ := Aside0.mk hz
    obtain ⟨hf0, hb0, _⟩ := err_zero (HBV.out.symm.trans hz)
    have hpi := HBB.out.symm.trans hb0
    rw [decide_eq_true_eq] at hpi
    have HP := Aside0.mk hpi
    have HF := Aside0.mk hf0
    have pl5 : place.length ≤ 5 := by rw [hpi.1]; exact (valid_of hf0).cake5
    clear hz hf0 hb0 hpi
    by_cases hd0 : done < 0
    · have HV2 := Aside0.mk (show dv = false by rw [HDV.out, if_neg (by rw [HZ.out]; simp), if_pos hd0])
      go_wp2_with (first | ((with_reducible refine gate_dst (N := 3) rfl ?_); refine box_event ?hg (N := 3) ?hd (cs := #[.int .i64 l.a0, .slice A1 l.l1.length c1, .slice A2 l.l2.length c2, .slice A3 l.l3.length c3, .slice A4 l.l4.length c4, .slice A5 l.l5.length c5]) (t := 39) ?hr ?_; (case hd => rfl); (case hg => rfl); (case hr => first | (go_simp; done) | (go_simp; rfl)); intro g3 hg_ w3 hbx_ hb_; have BK3 := Aside0.mk hbx_; have g3ge : w.heap.size ≤ g3 := (by have := below_size HB.out; omega); have g3GE := Aside0.mk g3ge; clear g3ge; have HBn := Aside0.mk (below_step HB.out hb_); clear HB hg_ hb_ hbx_; have HB := HBn; clear HBn) | ((with_reducible refine gate_dst (N := 4) rfl ?_); refine box_event ?hg (N := 4) ?hd (cs := #[.slice B place.length cB]) (t := 25) ?hr ?_; (case hd => rfl); (case hg => rfl); (case hr => first | (go_simp; done) | (go_simp; rfl)); intro g4 hg_ w4 hbx_ hb_; have BK4 := Aside0.mk hbx_; have g4ge : w.heap.size ≤ g4 := (by have := below_size HB.out; omega); have g4GE := Aside0.mk g4ge; clear g4ge; have HBn := Aside0.mk (below_step HB.out hb_); have z_ := Aside0.mk (blk_below BK3.out hb_); clear BK3; have BK3 := z_; clear z_; clear HB hg_ hb_ hbx_; have HB := HBn; clear HBn; have f0 : w4.cell? ⟨g3, 0, none⟩ = some (.int .i64 l.a0) := (blk_cell BK3.out 0).trans rfl; have f1 : w4.cell? ⟨g3, 1, none⟩ = some (.slice A1 l.l1.length c1) := (blk_cell BK3.out 1).trans rfl; have f2 : w4.cell? ⟨g3, 2, none⟩ = some (.slice A2 l.l2.length c2) := (blk_cell BK3.out 2).trans rfl; have f3 : w4.cell? ⟨g3, 3, none⟩ = some (.slice A3 l.l3.length c3) := (blk_cell BK3.out 3).trans rfl; have f4 : w4.cell? ⟨g3, 4, none⟩ = some (.slice A4 l.l4.length c4) := (blk_cell BK3.out 4).trans rfl; have f5 : w4.cell? ⟨g3, 5, none⟩ = some (.slice A5 l.l5.length c5) := (blk_cell BK3.out 5).trans rfl) | (go_at_call 72; go_must (refine (L_asked.calls ⟨A1, c1, A2, c2, A3, c3, A4, c4, A5, c5⟩ l 111 #[.pointer (some ⟨g3, 0, none⟩), .pointer (some ⟨g4, 0, none⟩)] _ _ (HR.out.below HB.out) (fun hf W hb => prove1_call ⟨A1, c1, A2, c2, A3, c3, A4, c4, A5, c5⟩ l B cB place g3 g4 W ⟨(HR.out.below HB.out).below hb, (valid_of hf).shelf3, (valid_of hf).cake5, Kd.C_below (Kd.C_below HRB.out HB.out) hb, blk_below BK3.out hb, blk_below BK4.out hb⟩) (fun w => enters_ Try.func111 (by kernel_rfl) rfl _ w)).mono ?_; clear f0 f1 f2 f3 f4 f5; rintro e wA hA; have hbA := hA.1; replace hA := job_of (HR.out.below HB.out) hA; rw [← HBB.out, ← HBV.out] at hA; replace BK3 := Aside0.mk (blk_below BK3.out hbA); replace BK4 := Aside0.mk (blk_below BK4.out hbA); rcases hA with ⟨hz0, rfl, _⟩ | ⟨hz0, gW, gM, A7, c7, rfl, hJ, hM⟩; exact absurd HZ.out hz0; have J := Aside0.mk hJ; have HM := Aside0.mk hM; have w5z := Aside0.mk HB.out.size; replace HB := Aside0.mk (below_step HB.out hbA); clear hbA hz0 hJ hM; have fB : wA.cell? ⟨g4, 0, none⟩ = some (.slice B place.length cB) := (blk_cell BK4.out 0).trans rfl)))
      go_ret
      exact ⟨by rw [HV2.out]; rfl, HB.out⟩
    have HV1 := Aside0.mk (show dv = l.provesFrom place done place.length 0 by rw [HDV.out, if_neg (by rw [HZ.out]; simp), if_neg hd0])
    go_wp2_with (first | ((with_reducible refine gate_dst (N := 3) rfl ?_); refine box_event ?hg (N := 3) ?hd (cs := #[.int .i64 l.a0, .slice A1 l.l1.length c1, .slice A2 l.l2.length c2, .slice A3 l.l3.length c3, .slice A4 l.l4.length c4, .slice A5 l.l5.length c5]) (t := 39) ?hr ?_; (case hd => rfl); (case hg => rfl); (case hr => first | (go_simp; done) | (go_simp; rfl)); intro g3 hg_ w3 hbx_ hb_; have BK3 := Aside0.mk hbx_; have g3ge : w.heap.size ≤ g3 := (by have := below_size HB.out; omega); have g3GE := Aside0.mk g3ge; clear g3ge; have HBn := Aside0.mk (below_step HB.out hb_); clear HB hg_ hb_ hbx_; have HB := HBn; clear HBn) | ((with_reducible refine gate_dst (N := 4) rfl ?_); refine box_event ?hg (N := 4) ?hd (cs := #[.slice B place.length cB]) (t := 25) ?hr ?_; (case hd => rfl); (case hg => rfl); (case hr => first | (go_simp; done) | (go_simp; rfl)); intro g4 hg_ w4 hbx_ hb_; have BK4 := Aside0.mk hbx_; have g4ge : w.heap.size ≤ g4 := (by have := below_size HB.out; omega); have g4GE := Aside0.mk g4ge; clear g4ge; have HBn := Aside0.mk (below_step HB.out hb_); have z_ := Aside0.mk (blk_below BK3.out hb_); clear BK3; have BK3 := z_; clear z_; clear HB hg_ hb_ hbx_; have HB := HBn; clear HBn; have f0 : w4.cell? ⟨g3, 0, none⟩ = some (.int .i64 l.a0) := (blk_cell BK3.out 0).trans rfl; have f1 : w4.cell? ⟨g3, 1, none⟩ = some (.slice A1 l.l1.length c1) := (blk_cell BK3.out 1).trans rfl; have f2 : w4.cell? ⟨g3, 2, none⟩ = some (.slice A2 l.l2.length c2) := (blk_cell BK3.out 2).trans rfl; have f3 : w4.cell? ⟨g3, 3, none⟩ = some (.slice A3 l.l3.length c3) := (blk_cell BK3.out 3).trans rfl; have f4 : w4.cell? ⟨g3, 4, none⟩ = some (.slice A4 l.l4.length c4) := (blk_cell BK3.out 4).trans rfl; have f5 : w4.cell? ⟨g3, 5, none⟩ = some (.slice A5 l.l5.length c5) := (blk_cell BK3.out 5).trans rfl) | (go_at_call 72; go_must (refine (L_asked.calls ⟨A1, c1, A2, c2, A3, c3, A4, c4, A5, c5⟩ l 111 #[.pointer (some ⟨g3, 0, none⟩), .pointer (some ⟨g4, 0, none⟩)] _ _ (HR.out.below HB.out) (fun hf W hb => prove1_call ⟨A1, c1, A2, c2, A3, c3, A4, c4, A5, c5⟩ l B cB place g3 g4 W ⟨(HR.out.below HB.out).below hb, (valid_of hf).shelf3, (valid_of hf).cake5, Kd.C_below (Kd.C_below HRB.out HB.out) hb, blk_below BK3.out hb, blk_below BK4.out hb⟩) (fun w => enters_ Try.func111 (by kernel_rfl) rfl _ w)).mono ?_; clear f0 f1 f2 f3 f4 f5; rintro e wA hA; have hbA := hA.1; replace hA := job_of (HR.out.below HB.out) hA; rw [← HBB.out, ← HBV.out] at hA; replace BK3 := Aside0.mk (blk_below BK3.out hbA); replace BK4 := Aside0.mk (blk_below BK4.out hbA); rcases hA with ⟨hz0, rfl, _⟩ | ⟨hz0, gW, gM, A7, c7, rfl, hJ, hM⟩; exact absurd HZ.out hz0; have J := Aside0.mk hJ; have HM := Aside0.mk hM; have w5z := Aside0.mk HB.out.size; replace HB := Aside0.mk (below_step HB.out hbA); clear hbA hz0 hJ hM; have fB : wA.cell? ⟨g4, 0, none⟩ = some (.slice B place.length cB) := (blk_cell BK4.out 0).trans rfl)))
    clear fB
    go_loopw [26] (fun v26 wr => ∃ i : Int, v26 = .int .i64 i ∧ 0 ≤ i ∧ i ≤ place.length ∧ Aside0 (l.provesFrom place done (place.length - i).toNat i = dv) ∧ Aside0 (Job w4 wr ⟨A1, c1, A2, c2, A3, c3, A4, c4, A5, c5⟩ l gW gM A7 c7) ∧ Aside0 (l.Days wr gM) ∧ Aside0 (Below w.heap.size w wr)) (fun v26 _ => (place.length - intOf v26).toNat)
    case atStart => exact ⟨0, rfl, by omega, by omega, ⟨by rw [HV1.out]; simp⟩, J, HM, HB⟩
    case round =>
      clear BK3 BK4 J HM HB
      obtain ⟨i, rfl, i0, i1, HS, J, HM, HB⟩ := hrel
      by_cases hlt : i < place.length
      · obtain ⟨adp, ep, fp⟩ := rowB (Kd.C_below HRB.out HB.out) i i0 hlt
        subst ep
        obtain ⟨gd, hgd⟩ : ∃ gd, gd = l.good i (rd place i) := ⟨_, rfl⟩
        have HST := Aside0.mk (show dv = if gd = 12 ∨ done < gd then false else l.provesFrom place done (place.length - (i + 1)).toNat (i + 1) by
          rw [← HS.out, hgd]
          have hk : (place.length - i).toNat = (place.length - (i + 1)).toNat + 1 := by omega
          rw [hk]; rfl)
        have hcall : Calls Try.prog 85 #[.pointer (some ⟨gW, 0, none⟩), .agg #[.int .i64 i, .int .i64 (rd place i)]] wr fun e w' => e = .returned (.int .i64 gd) ∧ Job w4 w' ⟨A1, c1, A2, c2, A3, c3, A4, c4, A5, c5⟩ l gW gM A7 c7 ∧ l.Days w' gM ∧ Turn (fun k => k = gM) wr w' := by
          rw [hgd]; exact good.calls _ l gW gM A7 c7 i (rd place i) w4 wr J.out HM.out HF.out (place_at HP.out i0 hlt)
        have HC := Aside0.mk hcall
        clear hcall hgd HS
        have hwi : IntKind.i64.wrap (i + 1) = i + 1 := IntWalk.i64_in _ (by omega)
        by_cases hd : gd = 12
        · have hdb : (gd == 12) = true := by rw [hd]; rfl
          have HV2 := Aside0.mk (show dv = false by rw [HST.out, if_pos (.inl hd)])
          clear hd
          go_wp2_with (go_at_call 85; go_must (refine HC.out.mono ?_; clear fp; rintro e wd0 ⟨rfl, hj, hm, ht⟩))
          go_ret
          exact ⟨by rw [HV2.out]; rfl, Turn.below HB.out ht (fun k hk => by have h1 := hj.gMge; have h2 := w5z.out; omega) HB.out.size⟩
        · have hdb : (gd == 12) = false := by rw [beq_eq_false_iff_ne]; exact hd
          have HD := Aside0.mk hd
          clear hd
          by_cases hgt : done < gd
          · have HV2 := Aside0.mk (show dv = false by rw [HST.out, if_pos (.inr hgt)])
            go_wp2_with (go_at_call 85; go_must (refine HC.out.mono ?_; clear fp; rintro e wd0 ⟨rfl, hj, hm, ht⟩))
            go_ret
            exact ⟨by rw [HV2.out]; rfl, Turn.below HB.out ht (fun k hk => by have h1 := hj.gMge; have h2 := w5z.out; omega) HB.out.size⟩
          go_wp2_with (go_at_call 85; go_must (refine HC.out.mono ?_; clear fp; rintro e wd0 ⟨rfl, hj, hm, ht⟩))
          exact ⟨⟨i + 1, rfl, by omega, by omega, ⟨by rw [HST.out, if_neg (fun h => h.elim HD.out (Int.not_lt.2 hgt))]⟩, ⟨hj⟩, ⟨hm⟩, ⟨Turn.below HB.out ht (fun k hk => by have h1 := hj.gMge; have h2 := w5z.out; omega) HB.out.size⟩⟩, by simp [intOf]; omega⟩
      · have hie : i = place.length := by omega
        have HV2 := Aside0.mk (show dv = true by rw [← HS.out, hie, Int.sub_self]; rfl)
        clear hie
        go_wp2
        go_ret
        exact ⟨by rw [HV2.out]; rfl, HB.out⟩
  · have hzb : (er != 0) = true := by simpa using hz
    have HZ := Aside0.mk hz
    have HV2 := Aside0.mk (show dv = false by rw [HDV.out, if_pos hz])
    clear hz
    go_wp2_with (first | ((with_reducible refine gate_dst (N := 3) rfl ?_); refine box_event ?hg (N := 3) ?hd (cs := #[.int .i64 l.a0, .slice A1 l.l1.length c1, .slice A2 l.l2.length c2, .slice A3 l.l3.length c3, .slice A4 l.l4.length c4, .slice A5 l.l5.length c5]) (t := 39) ?hr ?_; (case hd => rfl); (case hg => rfl); (case hr => first | (go_simp; done) | (go_simp; rfl)); intro g3 hg_ w3 hbx_ hb_; have BK3 := Aside0.mk hbx_; have g3ge : w.heap.size ≤ g3 := (by have := below_size HB.out; omega); have g3GE := Aside0.mk g3ge; clear g3ge; have HBn := Aside0.mk (below_step HB.out hb_); clear HB hg_ hb_ hbx_; have HB := HBn; clear HBn) | ((with_reducible refine gate_dst (N := 4) rfl ?_); refine box_event ?hg (N := 4) ?hd (cs := #[.slice B place.length cB]) (t := 25) ?hr ?_; (case hd => rfl); (case hg => rfl); (case hr => first | (go_simp; done) | (go_simp; rfl)); intro g4 hg_ w4 hbx_ hb_; have BK4 := Aside0.mk hbx_; have g4ge : w.heap.size ≤ g4 := (by have := below_size HB.out; omega); have g4GE := Aside0.mk g4ge; clear g4ge; have HBn := Aside0.mk (below_step HB.out hb_); have z_ := Aside0.mk (blk_below BK3.out hb_); clear BK3; have BK3 := z_; clear z_; clear HB hg_ hb_ hbx_; have HB := HBn; clear HBn; have f0 : w4.cell? ⟨g3, 0, none⟩ = some (.int .i64 l.a0) := (blk_cell BK3.out 0).trans rfl; have f1 : w4.cell? ⟨g3, 1, none⟩ = some (.slice A1 l.l1.length c1) := (blk_cell BK3.out 1).trans rfl; have f2 : w4.cell? ⟨g3, 2, none⟩ = some (.slice A2 l.l2.length c2) := (blk_cell BK3.out 2).trans rfl; have f3 : w4.cell? ⟨g3, 3, none⟩ = some (.slice A3 l.l3.length c3) := (blk_cell BK3.out 3).trans rfl; have f4 : w4.cell? ⟨g3, 4, none⟩ = some (.slice A4 l.l4.length c4) := (blk_cell BK3.out 4).trans rfl; have f5 : w4.cell? ⟨g3, 5, none⟩ = some (.slice A5 l.l5.length c5) := (blk_cell BK3.out 5).trans rfl) | (go_at_call 72; go_must (refine (L_asked.calls ⟨A1, c1, A2, c2, A3, c3, A4, c4, A5, c5⟩ l 111 #[.pointer (some ⟨g3, 0, none⟩), .pointer (some ⟨g4, 0, none⟩)] _ _ (HR.out.below HB.out) (fun hf W hb => prove1_call ⟨A1, c1, A2, c2, A3, c3, A4, c4, A5, c5⟩ l B cB place g3 g4 W ⟨(HR.out.below HB.out).below hb, (valid_of hf).shelf3, (valid_of hf).cake5, Kd.C_below (Kd.C_below HRB.out HB.out) hb, blk_below BK3.out hb, blk_below BK4.out hb⟩) (fun w => enters_ Try.func111 (by kernel_rfl) rfl _ w)).mono ?_; clear f0 f1 f2 f3 f4 f5; rintro e wA hA; have hbA := hA.1; replace hA := job_of (HR.out.below HB.out) hA; rw [← HBB.out, ← HBV.out] at hA; replace BK3 := Aside0.mk (blk_below BK3.out hbA); replace BK4 := Aside0.mk (blk_below BK4.out hbA); rcases hA with ⟨hz0, rfl, _⟩ | ⟨hz0, gW, gM, A7, c7, rfl, hJ, hM⟩; rotate_left; exact absurd hz0 HZ.out; replace HB := Aside0.mk (below_step HB.out hbA); clear hbA hz0)))
    go_ret
    exact ⟨by rw [HV2.out]; rfl, HB.out⟩
end Go.Proofs.Ytjifalohjlihaaa.Q
end
section
namespace Go.Proofs.Ytjifalohjlihaaa.Q
set_option linter.unusedVariables false
open Go.BigFrame Go.RowKit Go.Shelf Go.Proofs.YtjifalohjlihaaaW.PrintWords Go.Proofs.YtjifalohjlihaaaW.PrintLast Go.Proofs.YtjifalohjlihaaaW.PrintMore
def leaveLoop (F : List Int → Int → Option (List Int)) (out : List Int) : Nat → Int → Option (List Int)
  | 0, _ => none
  | k + 1, i => (F (out ++ [i]) (i + 1)).elim (leaveLoop F out k (i + 1)) some
def SL.leaveK (l : SL) : Nat → List Int → Int → Option (List Int)
  | 0, out, _ => if l.possible out then some out else none
  | m + 1, out, i => leaveLoop (l.leaveK m) out (l.l5.length - m - i).toNat i
structure LvS (w0 X : World) (x : SA) (l : SL) (gl gf gp : Nat) : Prop where
  bel : Below w0.heap.size w0 X
  rd0 : Rd w0 x l
  bl : X.heap[gl]? = some (.cells (x.cells l) 39 (0, 0))
  bp : X.heap[gp]? = some (.cells #[.func (.func 87) #[] #[.pointer (some ⟨gf, 0, none⟩), .pointer (some ⟨gl, 0, none⟩), .pointer (some ⟨gp, 0, none⟩)]] 141 (0, 0))
  bf : ∃ fv : Option Addr × Nat × Nat, X.heap[gf]? = some (.cells #[.slice fv.1 fv.2.1 fv.2.2] 25 (0, 0))
  gfge : w0.heap.size ≤ gf
theorem LvS.below {w0 X Y : World} {x : SA} {l : SL} {gl gf gp : Nat} (h : LvS w0 X x l gl gf gp) (hb : Below X.heap.size X Y) : LvS w0 Y x l gl gf gp :=
  ⟨below_step h.bel hb, h.rd0, blk_below h.bl hb, blk_below h.bp hb, by obtain ⟨fv, hf⟩ := h.bf; exact ⟨fv, blk_below hf hb⟩, h.gfge⟩
theorem LvS.turn {w0 X Y : World} {x : SA} {l : SL} {gl gf gp : Nat} (h : LvS w0 X x l gl gf gp) (ht : Turn (fun k => k = gf) X Y) (hf : ∃ fv : Option Addr × Nat × Nat, Y.heap[gf]? = some (.cells #[.slice fv.1 fv.2.1 fv.2.2] 25 (0, 0))) : LvS w0 Y x l gl gf gp := by
  obtain ⟨fv, hbf⟩ := h.bf
  exact ⟨Turn.below h.bel ht (fun k hk => by rw [hk]; exact h.gfge) h.bel.size, h.rd0, ht.blk h.bl (fun e => blk_ne h.bl hbf (by decide) e), ht.blk h.bp (fun e => blk_ne h.bp hbf (by decide) e), hf, h.gfge⟩
def LvOut (w0 : World) (x : SA) (l : SL) (gl gf gp : Nat) (r : Option (List Int)) (X : World) (e : Ending) (Y : World) : Prop :=
  e = .returned (.bool r.isSome) ∧ LvS w0 Y x l gl gf gp ∧ Turn (fun k => k = gf) X Y ∧
    ∀ q, r = some q → ∃ fv, Y.heap[gf]? = some (.cells #[fv] 25 (0, 0)) ∧ Kd.R (Kd.int .i64) 3 Y w0.heap.size (fun k => k ≠ gf) fv q
attribute [local go_sem] run_store_func
set_option maxRecDepth 100000 in
set_option maxHeartbeats 6400000 in
theorem leave_calls (x : SA) (l : SL) (gl gf gp : Nat) (w0 : World) (hf : l.fault = 0) :
    ∀ (m : Nat) (p : List Int) (i : Int) (pv : Value) (w : World), p.length + m ≤ l.l5.length → 0 ≤ i → i ≤ l.l5.length → LvS w0 w x l gl gf gp → Kd.R (Kd.int .i64) 3 w w0.heap.size (fun k => k ≠ gf) pv p →
      Calls Try.prog 87 #[pv, .int .i64 i, .int .i64 (m : Int), .pointer (some ⟨gf, 0, none⟩), .pointer (some ⟨gl, 0, none⟩), .pointer (some ⟨gp, 0, none⟩)] w (LvOut w0 x l gl gf gp (l.leaveK m p i) w) := by
  obtain ⟨A1, c1, A2, c2, A3, c3, A4, c4, A5, c5⟩ := x
  intro m
  induction m with
  | zero =>
    intro p i pv w hk i0 i1 hS hR
    have HS := Aside0.mk hS
    have HR := Aside0.mk hR
    have HF := Aside0.mk hf
    have hw5 := (valid_of hf).weight5
    obtain ⟨Ap, cp, hpv, hlp, hC⟩ := Kd.R_reads hR
    obtain ⟨fv0, hfv⟩ := hS.bf
    have BF := Aside0.mk hfv
    obtain ⟨b, hb⟩ : ∃ b, b = l.possible p := ⟨_, rfl⟩
    have HBB := Aside0.mk hb
    obtain ⟨r, hr⟩ : ∃ r, r = l.leaveK 0 p i := ⟨_, rfl⟩
    have HRE := Aside0.mk (show r = if b then some p else none by rw [hr, hb]; rfl)
    rw [← hr]
    subst hpv
    clear hS hR hlp hC hfv hb hr
    have ff : w.cell? ⟨gf, 0, none⟩ = some (.slice fv0.1 fv0.2.1 fv0.2.2) := (blk_cell BF.out 0).trans rfl
    have fz := blk_frozen BF.out 0
    go_enter Try.func87, Try.ntmps87
    go_upto_region 3 with (fail)
    obtain ⟨w1, hw1⟩ : ∃ w1, w1 = w.setCell ⟨gf, 0, none⟩ (.slice Ap p.length cp) := ⟨_, rfl⟩
    have ht : Turn (fun k => k = gf) w w1 := by rw [hw1]; exact Turn.set (Own := fun k => k = gf) (a := ⟨gf, 0, none⟩) rfl _
    have hb1 : w1.heap[gf]? = some (.cells #[.slice Ap p.length cp] 25 (0, 0)) := by rw [hw1]; exact blk_set BF.out 0 _
    have HT := Aside0.mk ht
    have HB1 := Aside0.mk hb1
    have HS1 := Aside0.mk (HS.out.turn ht ⟨(Ap, p.length, cp), hb1⟩)
    have HR1 := Aside0.mk (show Kd.R (Kd.int .i64) 3 w1 w0.heap.size (fun k => k ≠ gf) (.slice Ap p.length cp) p by rw [hw1]; exact Kd.R_far HR.out (fun k hk => hk) _)
    rw [← hw1]
    clear hw1 ht hb1 ff fz HS HR BF
    have f0 : w1.cell? ⟨gl, 0, none⟩ = some (.int .i64 l.a0) := (blk_cell HS1.out.bl 0).trans rfl; have f1 : w1.cell? ⟨gl, 1, none⟩ = some (.slice A1 l.l1.length c1) := (blk_cell HS1.out.bl 1).trans rfl; have f2 : w1.cell? ⟨gl, 2, none⟩ = some (.slice A2 l.l2.length c2) := (blk_cell HS1.out.bl 2).trans rfl; have f3 : w1.cell? ⟨gl, 3, none⟩ = some (.slice A3 l.l3.length c3) := (blk_cell HS1.out.bl 3).trans rfl; have f4 : w1.cell? ⟨gl, 4, none⟩ = some (.slice A4 l.l4.length c4) := (blk_cell HS1.out.bl 4).trans rfl; have f5 : w1.cell? ⟨gl, 5, none⟩ = some (.slice A5 l.l5.length c5) := (blk_cell HS1.out.bl 5).trans rfl
    go_wp2_with (go_at_call 86; go_must (refine (L_possible.calls ⟨A1, c1, A2, c2, A3, c3, A4, c4, A5, c5⟩ l Ap cp p w1 (HS1.out.rd0.below HS1.out.bel) (valid_of HF.out) (Kd.R_reads' HR1.out).2.2 (Kd.R_reads' HR1.out).2.1 (by omega)).mono ?_; rw [← HBB.out]; clear f0 f1 f2 f3 f4 f5; rintro e wp ⟨rfl, hb⟩))
    go_ret
    refine ⟨by rw [HRE.out]; cases b <;> rfl, HS1.out.below hb, HT.out.trans (Turn.of_below hb), fun q hq => ⟨_, blk_below HB1.out hb, ?_⟩⟩
    rw [HRE.out] at hq
    have hpq : p = q := by
      cases b with
      | false => cases hq
      | true => exact Option.some.inj hq
    rw [← hpq]
    exact Kd.R_below HR1.out hb
  | succ m ih =>
    intro p i pv w hk i0 i1 hS hR
    have HS := Aside0.mk hS
    have HR := Aside0.mk hR
    have HF := Aside0.mk hf
    have IH := Aside0.mk ih
    have hw5 := (valid_of hf).weight5
    obtain ⟨Ap, cp, hpv, hlp, hC⟩ := Kd.R_reads hR
    have HK := Aside0.mk hk
    have hml : (m : Int) + 1 ≤ l.l5.length := by omega
    subst hpv
    clear hS hR hlp hC hk ih
    obtain ⟨r, hr⟩ : ∃ r, r = l.leaveK (m + 1) p i := ⟨_, rfl⟩
    have HRE := Aside0.mk (show leaveLoop (l.leaveK m) p (l.l5.length - m - i).toNat i = r by rw [hr]; rfl)
    rw [← hr]
    have HT := Aside0.mk (Turn.refl (fun k => k = gf) w)
    clear hr
    have hmc : ((m + 1 : Nat) : Int) = (m : Int) + 1 := by omega
    rw [hmc]
    have hmz : (((m : Int) + 1) == 0) = false := by rw [beq_eq_false_iff_ne]; omega
    have hmw : IntKind.i64.wrap ((m : Int) + 1 - 1) = (m : Int) := by rw [Int.add_sub_cancel]; exact IntWalk.i64_in _ (by omega)
    have hmw2 : IntKind.i64.wrap (m : Int) = (m : Int) := IntWalk.i64_in _ (by omega)
    have hp5 : p.length ≤ 5 := by have := HK.out; omega
    have hlw : IntKind.i64.wrap ((l.l5.length : Int) - ((m : Int) + 1)) = (l.l5.length : Int) - ((m : Int) + 1) := IntWalk.i64_in _ (by omega)
    go_enter Try.func87, Try.ntmps87
    go_wp2
    go_loopw [10] (fun v10 wr => ∃ i : Int, v10 = .int .i64 i ∧ 0 ≤ i ∧ i ≤ l.l5.length ∧ Aside0 (leaveLoop (l.leaveK m) p (l.l5.length - m - i).toNat i = r) ∧ Aside0 (LvS w0 wr ⟨A1, c1, A2, c2, A3, c3, A4, c4, A5, c5⟩ l gl gf gp) ∧ Aside0 (Kd.R (Kd.int .i64) 3 wr w0.heap.size (fun k => k ≠ gf) (.slice Ap p.length cp) p) ∧ Aside0 (Turn (fun k => k = gf) w wr)) (fun v10 _ => (l.l5.length - intOf v10).toNat)
    case atStart => exact ⟨i, rfl, i0, i1, HRE, HS, HR, HT⟩
    case round =>
      clear HS HR HT HRE i0 i1
      obtain ⟨i, rfl, i0, i1, HE, HS, HR, HT⟩ := hrel
      have f5 : wr.cell? ⟨gl, 5, none⟩ = some (.slice A5 l.l5.length c5) := (blk_cell HS.out.bl 5).trans rfl
      by_cases hlt : i ≤ (l.l5.length : Int) - ((m : Int) + 1)
      · obtain ⟨r2, hr2⟩ : ∃ r2, r2 = l.leaveK m (p ++ [i]) (i + 1) := ⟨_, rfl⟩
        have HR2 := Aside0.mk hr2
        have HST := Aside0.mk (show r = r2.elim (leaveLoop (l.leaveK m) p (l.l5.length - m - (i + 1)).toNat (i + 1)) some by
          rw [← HE.out, hr2]
          have hk : (l.l5.length - m - i).toNat = (l.l5.length - m - (i + 1)).toNat + 1 := by omega
          rw [hk]; rfl)
        have hwi : IntKind.i64.wrap (i + 1) = i + 1 := IntWalk.i64_in _ (by omega)
        clear hr2 HE
        go_wp2_with fail
        clear f5
        have hbd_ := below_drew1 (Below.refl wr.heap.size wr)
        replace HS := Aside0.mk (HS.out.below hbd_)
        replace HR := Aside0.mk (Kd.R_below HR.out hbd_)
        replace HT := Aside0.mk (HT.out.trans (Turn.of_below hbd_))
        clear hbd_
        cases r2 with
        | none =>
          refine start_ (n := 11) (S := fun w' => w'.cell? ⟨gp, 0, none⟩ = some (.func (.func 87) #[] #[.pointer (some ⟨gf, 0, none⟩), .pointer (some ⟨gl, 0, none⟩), .pointer (some ⟨gp, 0, none⟩)])) (ds := []) #[false, false, false, false, false, false, false, false, false, false, false] (by kernel_rfl) rfl rfl ((blk_cell HS.out.bp 0).trans rfl) (fun hHeld => ?_)
          generalize wr.drew = wl at HS HR HT hHeld ⊢
          refine take_ (i := 0) (N := some 27) (v := ?_) (a' := ?_) #[true, false, false, false, false, false, false, false, false, false, false] rfl rfl (by kernel_rfl) (fun _ _ _ h => h) (Or.inl ⟨by rfl, ?_⟩) hHeld ?_ ?_
          rotate_left
          · intro w' s0
            go_simp
            with_reducible rfl
          rotate_left
          · simp only [Act.put, List.setIfInBounds_toArray, List.set_cons_zero, List.set_cons_succ]; rfl
          refine pure_ (i := 1) (N := some 28) (v := ?_) (a' := ?_) #[true, true, false, false, false, false, false, false, false, false, false] rfl rfl (by kernel_rfl) (fun _ _ _ h => h) (Or.inl ⟨by rfl, ?_⟩) ?_ ?_
          rotate_left
          · intro w'
            go_simp
            with_reducible rfl
          rotate_left
          · simp only [Act.put, List.setIfInBounds_toArray, List.set_cons_zero, List.set_cons_succ]; rfl
          refine pure_ (i := 3) (N := some 30) (v := ?_) (a' := ?_) #[true, true, false, true, false, false, false, false, false, false, false] rfl rfl (by kernel_rfl) (fun _ _ _ h => h) (Or.inl ⟨by rfl, ?_⟩) ?_ ?_
          rotate_left
          · intro w'
            go_simp
            with_reducible rfl
          rotate_left
          · simp only [Act.put, List.setIfInBounds_toArray, List.set_cons_zero, List.set_cons_succ]; rfl
          refine pure_ (i := 6) (N := some 33) (v := ?_) (a' := ?_) #[true, true, false, true, false, false, true, false, false, false, false] rfl rfl (by kernel_rfl) (fun _ _ _ h => h) (Or.inl ⟨by rfl, ?_⟩) ?_ ?_
          rotate_left
          · intro w'
            go_simp
            with_reducible rfl
          rotate_left
          · simp only [Act.put, List.setIfInBounds_toArray, List.set_cons_zero, List.set_cons_succ]; rfl
          refine pure_ (i := 7) (N := some 34) (v := ?_) (a' := ?_) #[true, true, false, true, false, false, true, true, false, false, false] rfl rfl (by kernel_rfl) (fun _ _ _ h => h) (Or.inl ⟨by rfl, ?_⟩) ?_ ?_
          rotate_left
          · intro w'
            go_simp
            with_reducible rfl
          rotate_left
          · simp only [Act.put, List.setIfInBounds_toArray, List.set_cons_zero, List.set_cons_succ]; rfl
          refine pure_ (i := 8) (N := some 35) (v := ?_) (a' := ?_) #[true, true, false, true, false, false, true, true, true, false, false] rfl rfl (by kernel_rfl) (fun _ _ _ h => h) (Or.inl ⟨by rfl, ?_⟩) ?_ ?_
          rotate_left
          · intro w'
            go_simp
            with_reducible rfl
          rotate_left
          · simp only [Act.put, List.setIfInBounds_toArray, List.set_cons_zero, List.set_cons_succ]; rfl
          refine pure_ (i := 9) (N := some 36) (v := ?_) (a' := ?_) #[true, true, false, true, false, false, true, true, true, true, false] rfl rfl (by kernel_rfl) (fun _ _ _ h => h) (Or.inl ⟨by rfl, ?_⟩) ?_ ?_
          rotate_left
          · intro w'
            go_simp
            with_reducible rfl
          rotate_left
          · simp only [Act.put, List.setIfInBounds_toArray, List.set_cons_zero, List.set_cons_succ]; rfl
          refine join_ (σ := Value × Nat) 2 #[true, true, true, true, true, false, true, true, true, true, false] (fun s_ => [(29, s_.1), (31, .slice (some ⟨s_.2, 0, none⟩) 1 1)]) (fun s_ w' => (w'.cell? ⟨gp, 0, none⟩ = some (.func (.func 87) #[] #[.pointer (some ⟨gf, 0, none⟩), .pointer (some ⟨gl, 0, none⟩), .pointer (some ⟨gp, 0, none⟩)])) ∧ Kd.R (Kd.int .i64) 3 w' wl.heap.size (fun _ => True) s_.1 p ∧ w'.heap[s_.2]? = some (.cells #[.int .i64 i] 3 (0, 0)) ∧ Below wl.heap.size wl w') ?_ ?_
          rotate_left
          · intro hCont
            refine two_ (i := 2) (j := 4) (Ni := some 29) (Nj := some 31) #[true, true, true, true, false, false, true, true, true, true, false] #[true, true, false, true, true, false, true, true, true, true, false] rfl rfl rfl rfl (by kernel_rfl) (by decide) (by decide) (fun K hK => ?_) (fun K hK => ?_)
            · refine goes_ Try.func88 (by kernel_rfl) rfl #[.slice Ap p.length cp] (by rfl) rfl rfl (by (try simp only [List.map_toArray, List.map_cons, List.map_nil]); rfl) ?_
              refine (slices_Clone_int.calls Ap cp p p wl (Kd.R_reads' HR.out).2.2 (Kd.R_reads' HR.out).2.1 (by unfold slices_Clone_int.f; rw [if_pos (by omega)])).mono ?_
              rintro e wc ⟨v0, rfl, ho, hbc⟩
              refine ⟨_, rfl, ?_⟩
              have HO := Aside0.mk ho
              have HBC := Aside0.mk hbc
              have HSc := Aside0.mk (HS.out.below hbc)
              clear ho hbc
              refine hK.out _ _ ((blk_cell HSc.out.bp 0).trans rfl) (fun hHeld => ?_)
              clear hK K
              refine norm_ (a' := ?_) ?_ ?_
              rotate_left
              · show Act.put _ (some 29) _ = _; simp only [Act.put, List.setIfInBounds_toArray, List.set_cons_zero, List.set_cons_succ]; rfl
              refine one_ (i := 4) (N := some 31) #[true, true, true, true, true, false, true, true, true, true, false] rfl rfl (by kernel_rfl) (by decide) (fun K hK => ?_)
              refine value_ (w1 := ?_) (v := ?_) (by rfl) rfl ?_ ?_
              rotate_left 2
              · go_simp
                constructor
                · rfl
                · rfl
              refine hK.out _ _ ((blk_cell (blk_alloc HSc.out.bp _) 0).trans rfl) (fun hHeld => ?_)
              clear hK K
              exact norm_ (by simp only [putAll, Act.put, List.setIfInBounds_toArray, List.set_cons_zero, List.set_cons_succ]) (hCont (v0, wc.heap.size) _ ⟨hHeld, Kd.R_below HO.out (below_alloc (Below.refl _ _) _), blk_new _ _, below_alloc HBC.out _⟩)
            · refine value_ (w1 := ?_) (v := ?_) (by rfl) rfl ?_ ?_
              rotate_left 2
              · go_simp
                constructor
                · rfl
                · rfl
              have hba := below_alloc (Below.refl wl.heap.size wl) (Obj.cells #[.int .i64 i] 3 (0, 0))
              have HSa := Aside0.mk (HS.out.below hba)
              have HRa := Aside0.mk (Kd.R_below HR.out hba)
              refine hK.out _ _ ((blk_cell HSa.out.bp 0).trans rfl) (fun hHeld => ?_)
              clear hK K
              refine norm_ (a' := ?_) ?_ ?_
              rotate_left
              · show Act.put _ (some 31) _ = _; simp only [Act.put, List.setIfInBounds_toArray, List.set_cons_zero, List.set_cons_succ]; rfl
              refine one_ (i := 2) (N := some 29) #[true, true, true, true, true, false, true, true, true, true, false] rfl rfl (by kernel_rfl) (by decide) (fun K hK => ?_)
              refine goes_ Try.func88 (by kernel_rfl) rfl #[.slice Ap p.length cp] (by rfl) rfl rfl (by (try simp only [List.map_toArray, List.map_cons, List.map_nil]); rfl) ?_
              refine (slices_Clone_int.calls Ap cp p p _ (Kd.R_reads' HRa.out).2.2 (Kd.R_reads' HRa.out).2.1 (by unfold slices_Clone_int.f; rw [if_pos (by omega)])).mono ?_
              rintro e wc ⟨v0, rfl, ho, hbc⟩
              refine ⟨_, rfl, ?_⟩
              have HSc := Aside0.mk (HSa.out.below hbc)
              refine hK.out _ _ ((blk_cell HSc.out.bp 0).trans rfl) (fun hHeld => ?_)
              clear hK K
              exact norm_ (by simp only [putAll, Act.put, List.setIfInBounds_toArray, List.set_cons_zero, List.set_cons_succ]) (hCont (v0, wl.heap.size) _ ⟨hHeld, Kd.R_lower ho hba.size, blk_below (blk_new _ _) hbc, below_step hba hbc⟩)
          rintro ⟨v0, gl9⟩ wj ⟨hHeld, ho, hgl, hbj⟩
          refine norm_ (a' := ?_) ?_ ?_
          rotate_left
          · simp only [putAll, Act.put, List.setIfInBounds_toArray, List.set_cons_zero, List.set_cons_succ]
            rfl
          refine one_ (i := 5) (N := some 32) #[true, true, true, true, true, true, true, true, true, true, false] rfl rfl (by kernel_rfl) (by decide) (fun K hK => ?_)
          refine Kd.R_append_rows_step (Kd.int .i64) (Rr := (Kd.int .i64).K wj) (w0 := wl) wl.heap.size (by rfl) (.tmp 29) (.tmp 31) 25 3 (.int .i64 0) 8 rfl Try.underlying25 info3 rfl (by decide) (by omega) v0 p [i] (some ⟨gl9, 0, none⟩) 1 1 (fun _ => True) (fun _ => False) rfl rfl ho (lit_row hgl) (fun x cs h => h) (fun _ hk => hk.elim) (fun _ _ => trivial) hbj hbj.size ?aL ?_
          (case aL => omega)
          intro v9 w9 ho9 hb9 hg9 hat9
          have hrow : Kd.R (Kd.int .i64) 3 w9 w0.heap.size (fun k => k ≠ gf) v9 (p ++ [i]) := by
            refine Kd.R_lower (Kd.R_mono (Kd.R_bound ho9) (fun k hk => ?_)) HS.out.bel.size
            obtain ⟨fv1, hbf⟩ := HS.out.bf
            have h2 := blk_lt hbf
            omega
          have HS9 := Aside0.mk (HS.out.below hb9)
          have HR9 := Aside0.mk (Kd.R_below HR.out hb9)
          have HT9 := Aside0.mk (HT.out.trans (Turn.of_below hb9))
          have HROW := Aside0.mk hrow
          clear ho9 hb9 hg9 hat9 hrow
          refine hK.out _ _ ((blk_cell HS9.out.bp 0).trans rfl) (fun hHeld => ?_)
          clear hK K
          refine norm_ (a' := ?_) ?_ ?_
          rotate_left
          · show Act.put _ (some 32) _ = _; simp only [Act.put, List.setIfInBounds_toArray, List.set_cons_zero, List.set_cons_succ]; rfl
          refine one_ (i := 10) (N := some 37) #[true, true, true, true, true, true, true, true, true, true, true] rfl rfl (by kernel_rfl) (by decide) (fun K hK => ?_)
          refine call_ 87 #[v9, .int .i64 (i + 1), .int .i64 (m : Int), .pointer (some ⟨gf, 0, none⟩), .pointer (some ⟨gl, 0, none⟩), .pointer (some ⟨gp, 0, none⟩)] (by rfl) rfl (by have h_ := enters_ Try.func87 (by kernel_rfl) rfl #[v9, .int .i64 (i + 1), .int .i64 (m : Int), .pointer (some ⟨gf, 0, none⟩), .pointer (some ⟨gl, 0, none⟩), .pointer (some ⟨gp, 0, none⟩)] w9; unfold execOp; simp [resolve, Deferred.ofValue, invoke, Act.eval, h_]) ?_
          refine (IH.out (p ++ [i]) (i + 1) v9 w9 (by rw [List.length_append, List.length_singleton]; have := HK.out; omega) (by omega) (by omega) HS9.out HROW.out).mono ?_
          rw [← HR2.out]
          rintro e wp ⟨rfl, hsp, htp, hqp⟩
          refine ⟨_, rfl, ?_⟩
          have HSP := Aside0.mk hsp
          have HRP2 := Aside0.mk (Kd.R_step HR9.out (fun k hk hlt => htp.block k hlt hk))
          have HTP := Aside0.mk (HT9.out.trans htp)
          have HQP := Aside0.mk hqp
          clear hsp htp hqp
          refine hK.out _ _ ((blk_cell HSP.out.bp 0).trans rfl) (fun hHeld => ?_)
          clear hK K
          refine norm_ (a' := ?_) ?_ ?_
          rotate_left
          · show Act.put _ (some 37) _ = _; simp only [Act.put, List.setIfInBounds_toArray, List.set_cons_zero, List.set_cons_succ]; rfl
          refine done_ (by kernel_rfl) ?_
          go_wp2
          exact ⟨⟨i + 1, rfl, by omega, by omega, ⟨by rw [HST.out]; rfl⟩, HSP, HRP2, HTP⟩, by simp [intOf]; omega⟩
        | some q =>
          refine start_ (n := 11) (S := fun w' => w'.cell? ⟨gp, 0, none⟩ = some (.func (.func 87) #[] #[.pointer (some ⟨gf, 0, none⟩), .pointer (some ⟨gl, 0, none⟩), .pointer (some ⟨gp, 0, none⟩)])) (ds := []) #[false, false, false, false, false, false, false, false, false, false, false] (by kernel_rfl) rfl rfl ((blk_cell HS.out.bp 0).trans rfl) (fun hHeld => ?_)
          generalize wr.drew = wl at HS HR HT hHeld ⊢
          refine take_ (i := 0) (N := some 27) (v := ?_) (a' := ?_) #[true, false, false, false, false, false, false, false, false, false, false] rfl rfl (by kernel_rfl) (fun _ _ _ h => h) (Or.inl ⟨by rfl, ?_⟩) hHeld ?_ ?_
          rotate_left
          · intro w' s0
            go_simp
            with_reducible rfl
          rotate_left
          · simp only [Act.put, List.setIfInBounds_toArray, List.set_cons_zero, List.set_cons_succ]; rfl
          refine pure_ (i := 1) (N := some 28) (v := ?_) (a' := ?_) #[true, true, false, false, false, false, false, false, false, false, false] rfl rfl (by kernel_rfl) (fun _ _ _ h => h) (Or.inl ⟨by rfl, ?_⟩) ?_ ?_
          rotate_left
          · intro w'
            go_simp
            with_reducible rfl
          rotate_left
          · simp only [Act.put, List.setIfInBounds_toArray, List.set_cons_zero, List.set_cons_succ]; rfl
          refine pure_ (i := 3) (N := some 30) (v := ?_) (a' := ?_) #[true, true, false, true, false, false, false, false, false, false, false] rfl rfl (by kernel_rfl) (fun _ _ _ h => h) (Or.inl ⟨by rfl, ?_⟩) ?_ ?_
          rotate_left
          · intro w'
            go_simp
            with_reducible rfl
          rotate_left
          · simp only [Act.put, List.setIfInBounds_toArray, List.set_cons_zero, List.set_cons_succ]; rfl
          refine pure_ (i := 6) (N := some 33) (v := ?_) (a' := ?_) #[true, true, false, true, false, false, true, false, false, false, false] rfl rfl (by kernel_rfl) (fun _ _ _ h => h) (Or.inl ⟨by rfl, ?_⟩) ?_ ?_
          rotate_left
          · intro w'
            go_simp
            with_reducible rfl
          rotate_left
          · simp only [Act.put, List.setIfInBounds_toArray, List.set_cons_zero, List.set_cons_succ]; rfl
          refine pure_ (i := 7) (N := some 34) (v := ?_) (a' := ?_) #[true, true, false, true, false, false, true, true, false, false, false] rfl rfl (by kernel_rfl) (fun _ _ _ h => h) (Or.inl ⟨by rfl, ?_⟩) ?_ ?_
          rotate_left
          · intro w'
            go_simp
            with_reducible rfl
          rotate_left
          · simp only [Act.put, List.setIfInBounds_toArray, List.set_cons_zero, List.set_cons_succ]; rfl
          refine pure_ (i := 8) (N := some 35) (v := ?_) (a' := ?_) #[true, true, false, true, false, false, true, true, true, false, false] rfl rfl (by kernel_rfl) (fun _ _ _ h => h) (Or.inl ⟨by rfl, ?_⟩) ?_ ?_
          rotate_left
          · intro w'
            go_simp
            with_reducible rfl
          rotate_left
          · simp only [Act.put, List.setIfInBounds_toArray, List.set_cons_zero, List.set_cons_succ]; rfl
          refine pure_ (i := 9) (N := some 36) (v := ?_) (a' := ?_) #[true, true, false, true, false, false, true, true, true, true, false] rfl rfl (by kernel_rfl) (fun _ _ _ h => h) (Or.inl ⟨by rfl, ?_⟩) ?_ ?_
          rotate_left
          · intro w'
            go_simp
            with_reducible rfl
          rotate_left
          · simp only [Act.put, List.setIfInBounds_toArray, List.set_cons_zero, List.set_cons_succ]; rfl
          refine join_ (σ := Value × Nat) 2 #[true, true, true, true, true, false, true, true, true, true, false] (fun s_ => [(29, s_.1), (31, .slice (some ⟨s_.2, 0, none⟩) 1 1)]) (fun s_ w' => (w'.cell? ⟨gp, 0, none⟩ = some (.func (.func 87) #[] #[.pointer (some ⟨gf, 0, none⟩), .pointer (some ⟨gl, 0, none⟩), .pointer (some ⟨gp, 0, none⟩)])) ∧ Kd.R (Kd.int .i64) 3 w' wl.heap.size (fun _ => True) s_.1 p ∧ w'.heap[s_.2]? = some (.cells #[.int .i64 i] 3 (0, 0)) ∧ Below wl.heap.size wl w') ?_ ?_
          rotate_left
          · intro hCont
            refine two_ (i := 2) (j := 4) (Ni := some 29) (Nj := some 31) #[true, true, true, true, false, false, true, true, true, true, false] #[true, true, false, true, true, false, true, true, true, true, false] rfl rfl rfl rfl (by kernel_rfl) (by decide) (by decide) (fun K hK => ?_) (fun K hK => ?_)
            · refine goes_ Try.func88 (by kernel_rfl) rfl #[.slice Ap p.length cp] (by rfl) rfl rfl (by (try simp only [List.map_toArray, List.map_cons, List.map_nil]); rfl) ?_
              refine (slices_Clone_int.calls Ap cp p p wl (Kd.R_reads' HR.out).2.2 (Kd.R_reads' HR.out).2.1 (by unfold slices_Clone_int.f; rw [if_pos (by omega)])).mono ?_
              rintro e wc ⟨v0, rfl, ho, hbc⟩
              refine ⟨_, rfl, ?_⟩
              have HO := Aside0.mk ho
              have HBC := Aside0.mk hbc
              have HSc := Aside0.mk (HS.out.below hbc)
              clear ho hbc
              refine hK.out _ _ ((blk_cell HSc.out.bp 0).trans rfl) (fun hHeld => ?_)
              clear hK K
              refine norm_ (a' := ?_) ?_ ?_
              rotate_left
              · show Act.put _ (some 29) _ = _; simp only [Act.put, List.setIfInBounds_toArray, List.set_cons_zero, List.set_cons_succ]; rfl
              refine one_ (i := 4) (N := some 31) #[true, true, true, true, true, false, true, true, true, true, false] rfl rfl (by kernel_rfl) (by decide) (fun K hK => ?_)
              refine value_ (w1 := ?_) (v := ?_) (by rfl) rfl ?_ ?_
              rotate_left 2
              · go_simp
                constructor
                · rfl
                · rfl
              refine hK.out _ _ ((blk_cell (blk_alloc HSc.out.bp _) 0).trans rfl) (fun hHeld => ?_)
              clear hK K
              exact norm_ (by simp only [putAll, Act.put, List.setIfInBounds_toArray, List.set_cons_zero, List.set_cons_succ]) (hCont (v0, wc.heap.size) _ ⟨hHeld, Kd.R_below HO.out (below_alloc (Below.refl _ _) _), blk_new _ _, below_alloc HBC.out _⟩)
            · refine value_ (w1 := ?_) (v := ?_) (by rfl) rfl ?_ ?_
              rotate_left 2
              · go_simp
                constructor
                · rfl
                · rfl
              have hba := below_alloc (Below.refl wl.heap.size wl) (Obj.cells #[.int .i64 i] 3 (0, 0))
              have HSa := Aside0.mk (HS.out.below hba)
              have HRa := Aside0.mk (Kd.R_below HR.out hba)
              refine hK.out _ _ ((blk_cell HSa.out.bp 0).trans rfl) (fun hHeld => ?_)
              clear hK K
              refine norm_ (a' := ?_) ?_ ?_
              rotate_left
              · show Act.put _ (some 31) _ = _; simp only [Act.put, List.setIfInBounds_toArray, List.set_cons_zero, List.set_cons_succ]; rfl
              refine one_ (i := 2) (N := some 29) #[true, true, true, true, true, false, true, true, true, true, false] rfl rfl (by kernel_rfl) (by decide) (fun K hK => ?_)
              refine goes_ Try.func88 (by kernel_rfl) rfl #[.slice Ap p.length cp] (by rfl) rfl rfl (by (try simp only [List.map_toArray, List.map_cons, List.map_nil]); rfl) ?_
              refine (slices_Clone_int.calls Ap cp p p _ (Kd.R_reads' HRa.out).2.2 (Kd.R_reads' HRa.out).2.1 (by unfold slices_Clone_int.f; rw [if_pos (by omega)])).mono ?_
              rintro e wc ⟨v0, rfl, ho, hbc⟩
              refine ⟨_, rfl, ?_⟩
              have HSc := Aside0.mk (HSa.out.below hbc)
              refine hK.out _ _ ((blk_cell HSc.out.bp 0).trans rfl) (fun hHeld => ?_)
              clear hK K
              exact norm_ (by simp only [putAll, Act.put, List.setIfInBounds_toArray, List.set_cons_zero, List.set_cons_succ]) (hCont (v0, wl.heap.size) _ ⟨hHeld, Kd.R_lower ho hba.size, blk_below (blk_new _ _) hbc, below_step hba hbc⟩)
          rintro ⟨v0, gl9⟩ wj ⟨hHeld, ho, hgl, hbj⟩
          refine norm_ (a' := ?_) ?_ ?_
          rotate_left
          · simp only [putAll, Act.put, List.setIfInBounds_toArray, List.set_cons_zero, List.set_cons_succ]
            rfl
          refine one_ (i := 5) (N := some 32) #[true, true, true, true, true, true, true, true, true, true, false] rfl rfl (by kernel_rfl) (by decide) (fun K hK => ?_)
          refine Kd.R_append_rows_step (Kd.int .i64) (Rr := (Kd.int .i64).K wj) (w0 := wl) wl.heap.size (by rfl) (.tmp 29) (.tmp 31) 25 3 (.int .i64 0) 8 rfl Try.underlying25 info3 rfl (by decide) (by omega) v0 p [i] (some ⟨gl9, 0, none⟩) 1 1 (fun _ => True) (fun _ => False) rfl rfl ho (lit_row hgl) (fun x cs h => h) (fun _ hk => hk.elim) (fun _ _ => trivial) hbj hbj.size ?aL ?_
          (case aL => omega)
          intro v9 w9 ho9 hb9 hg9 hat9
          have hrow : Kd.R (Kd.int .i64) 3 w9 w0.heap.size (fun k => k ≠ gf) v9 (p ++ [i]) := by
            refine Kd.R_lower (Kd.R_mono (Kd.R_bound ho9) (fun k hk => ?_)) HS.out.bel.size
            obtain ⟨fv1, hbf⟩ := HS.out.bf
            have h2 := blk_lt hbf
            omega
          have HS9 := Aside0.mk (HS.out.below hb9)
          have HR9 := Aside0.mk (Kd.R_below HR.out hb9)
          have HT9 := Aside0.mk (HT.out.trans (Turn.of_below hb9))
          have HROW := Aside0.mk hrow
          clear ho9 hb9 hg9 hat9 hrow
          refine hK.out _ _ ((blk_cell HS9.out.bp 0).trans rfl) (fun hHeld => ?_)
          clear hK K
          refine norm_ (a' := ?_) ?_ ?_
          rotate_left
          · show Act.put _ (some 32) _ = _; simp only [Act.put, List.setIfInBounds_toArray, List.set_cons_zero, List.set_cons_succ]; rfl
          refine one_ (i := 10) (N := some 37) #[true, true, true, true, true, true, true, true, true, true, true] rfl rfl (by kernel_rfl) (by decide) (fun K hK => ?_)
          refine call_ 87 #[v9, .int .i64 (i + 1), .int .i64 (m : Int), .pointer (some ⟨gf, 0, none⟩), .pointer (some ⟨gl, 0, none⟩), .pointer (some ⟨gp, 0, none⟩)] (by rfl) rfl (by have h_ := enters_ Try.func87 (by kernel_rfl) rfl #[v9, .int .i64 (i + 1), .int .i64 (m : Int), .pointer (some ⟨gf, 0, none⟩), .pointer (some ⟨gl, 0, none⟩), .pointer (some ⟨gp, 0, none⟩)] w9; unfold execOp; simp [resolve, Deferred.ofValue, invoke, Act.eval, h_]) ?_
          refine (IH.out (p ++ [i]) (i + 1) v9 w9 (by rw [List.length_append, List.length_singleton]; have := HK.out; omega) (by omega) (by omega) HS9.out HROW.out).mono ?_
          rw [← HR2.out]
          rintro e wp ⟨rfl, hsp, htp, hqp⟩
          refine ⟨_, rfl, ?_⟩
          have HSP := Aside0.mk hsp
          have HRP2 := Aside0.mk (Kd.R_step HR9.out (fun k hk hlt => htp.block k hlt hk))
          have HTP := Aside0.mk (HT9.out.trans htp)
          have HQP := Aside0.mk hqp
          clear hsp htp hqp
          refine hK.out _ _ ((blk_cell HSP.out.bp 0).trans rfl) (fun hHeld => ?_)
          clear hK K
          refine norm_ (a' := ?_) ?_ ?_
          rotate_left
          · show Act.put _ (some 37) _ = _; simp only [Act.put, List.setIfInBounds_toArray, List.set_cons_zero, List.set_cons_succ]; rfl
          refine done_ (by kernel_rfl) ?_
          have HRQ := Aside0.mk (show r = some q by rw [HST.out]; rfl)
          go_wp2
          go_ret
          exact ⟨by rw [HRQ.out]; rfl, HSP.out, HTP.out, fun q' hq' => by rw [HRQ.out] at hq'; exact HQP.out q' hq'⟩
      · have hz : (l.l5.length - m - i).toNat = 0 := by omega
        have hrn : r = none := by rw [← HE.out, hz]; rfl
        have HRN := Aside0.mk hrn
        clear hrn hz
        go_wp2
        go_ret
        exact ⟨by rw [HRN.out]; rfl, HS.out, HT.out, fun q hq => by rw [HRN.out] at hq; cases hq⟩
end Go.Proofs.Ytjifalohjlihaaa.Q
end
section
namespace Go.Proofs.Ytjifalohjlihaaa.Q
set_option linter.unusedVariables false
open Go.BigFrame Go.RowKit Go.Shelf Go.Proofs.YtjifalohjlihaaaW.PrintWords Go.Proofs.YtjifalohjlihaaaW.PrintLast Go.Proofs.YtjifalohjlihaaaW.PrintMore
theorem enumP_ne : ∀ (rs : List S56) (p : List Int), (∀ r ∈ rs, r.f0 ≤ r.f1) → enumP rs p ≠ [] := by
  intro rs
  induction rs with
  | nil => intro p _ h; simp [enumP] at h
  | cons r t ih =>
    intro p h
    unfold enumP
    intro he
    rw [List.flatMap_eq_nil_iff] at he
    have hr := h r (List.mem_cons_self ..)
    exact ih _ (fun r' hr' => h r' (List.mem_cons_of_mem _ hr')) (he 0 (by rw [List.mem_range]; omega))
theorem possible_all {l : SL} (hv : Valid l) {out : List Int} (h : ∀ j : Nat, j < l.l5.length → (j : Int) ∈ out) : l.possible out = true := by
  have hne := enumP_ne l.ranges [] (fun r hr => by obtain ⟨i, h0, h1, rfl⟩ := mem_rd_T hr; exact (hv.ranges i h0 h1).2.1)
  obtain ⟨ns, t, e⟩ := List.exists_cons_of_ne_nil hne
  unfold SL.possible
  rw [e, List.any_cons, Bool.or_eq_true]
  exact .inl (by unfold SL.right; rw [decide_eq_true_eq]; exact fun j hj => .inl (h j hj))
theorem leave_last {l : SL} (hv : Valid l) : ∀ (m : Nat) (out : List Int) (i : Nat), i + m = l.l5.length → (∀ j : Nat, j < i → (j : Int) ∈ out) → l.leaveK m out i ≠ none := by
  intro m
  induction m with
  | zero =>
    intro out i hi h
    unfold SL.leaveK
    rw [possible_all hv (fun j hj => h j (by omega))]
    simp
  | succ m ih =>
    intro out i hi h
    unfold SL.leaveK
    have hk : ((l.l5.length : Int) - m - i).toNat = 0 + 1 := by omega
    rw [hk]
    unfold leaveLoop
    have h2 := ih (out ++ [(i : Int)]) (i + 1) (by omega) (fun j hj => by
      rw [List.mem_append, List.mem_singleton]
      by_cases hij : j < i
      · exact .inl (h j hij)
      · exact .inr (by omega))
    rw [show ((i + 1 : Nat) : Int) = (i : Int) + 1 by omega] at h2
    cases hL : l.leaveK m (out ++ [(i : Int)]) ((i : Int) + 1) with
    | none => exact absurd hL h2
    | some q => simp
def SL.leavesFrom (l : SL) : Nat → Nat → Option (List Int)
  | 0, _ => none
  | k + 1, m => (l.leaveK m [] 0).elim (l.leavesFrom k (m + 1)) some
def SL.leaves (l : SL) : List Int := if l.fault ≠ 0 then [] else (l.leavesFrom (l.l5.length + 1) 0).getD []
theorem leaves_ne {l : SL} (hv : Valid l) : ∀ (k m : Nat), m + k = l.l5.length → l.leavesFrom (k + 1) m ≠ none := by
  intro k
  induction k with
  | zero =>
    intro m hm
    have h := leave_last hv m [] 0 (by omega) (fun j hj => by omega)
    unfold SL.leavesFrom
    cases hL : l.leaveK m [] ((0 : Nat) : Int) with
    | none => exact absurd hL h
    | some q => simp
  | succ k ih =>
    intro m hm
    unfold SL.leavesFrom
    cases hL : l.leaveK m [] 0 with
    | none => simpa using ih (m + 1) (by omega)
    | some q => simp
attribute [local go_sem] run_store_func
set_option maxRecDepth 100000 in
set_option maxHeartbeats 6400000 in
theorem Leave.calls (x : SA) (l : SL) (w : World) (hr : Rd w x l) :
    Calls Try.prog 38 #[.agg (x.cells l)] w fun e w' => ∃ v, e = .returned (.tuple #[v, .int .i64 l.fault]) ∧ Kd.R (Kd.int .i64) 3 w' w.heap.size (fun _ => True) v l.leaves ∧ Below w.heap.size w w' := by
  obtain ⟨A1, c1, A2, c2, A3, c3, A4, c4, A5, c5⟩ := x
  have HB := Aside0.mk (Below.refl w.heap.size w)
  have HR := Aside0.mk hr
  obtain ⟨er, her⟩ : ∃ er, er = l.fault := ⟨_, rfl⟩
  obtain ⟨dv, hdv⟩ : ∃ dv, dv = l.leaves := ⟨_, rfl⟩
  have HDV := Aside0.mk (show dv = if er ≠ 0 then [] else (l.leavesFrom (l.l5.length + 1) 0).getD [] by rw [hdv, her]; rfl)
  have HER := Aside0.mk her
  rw [← hdv, ← her]
  clear hr her hdv
  go_enter Try.func38, Try.ntmps38
  by_cases hz : er = 0
  · have hzb : (l.fault != 0) = false := by rw [← HER.out, hz]; rfl
    have HZ := Aside0.mk hz
    have HF := Aside0.mk (HER.out.symm.trans hz)
    have HNE := Aside0.mk (leaves_ne (valid_of HF.out) l.l5.length 0 (by omega))
    have HV2 := Aside0.mk (show dv = (l.leavesFrom (l.l5.length + 1) 0).getD [] by rw [HDV.out, if_neg (by rw [hz]; simp)])
    have h55 := (valid_of HF.out).weight5
    have hwl : IntKind.i64.wrap ((l.l5.length : Int) + 1) = (l.l5.length : Int) + 1 := IntWalk.i64_in _ (by omega)
    clear hz
    go_upto_region 6 with (first | ((with_reducible refine gate_dst (N := 1) rfl ?_); refine box_event ?hg (N := 1) ?hd (cs := #[.int .i64 l.a0, .slice A1 l.l1.length c1, .slice A2 l.l2.length c2, .slice A3 l.l3.length c3, .slice A4 l.l4.length c4, .slice A5 l.l5.length c5]) (t := 39) ?hr ?_; (case hd => rfl); (case hg => rfl); (case hr => first | (go_simp; done) | (go_simp; rfl)); intro g1 hg_ w1 hbx_ hb_; have BK1 := Aside0.mk hbx_; have g1ge : w.heap.size ≤ g1 := (by have := below_size HB.out; omega); have g1GE := Aside0.mk g1ge; clear g1ge; have HBn := Aside0.mk (below_step HB.out hb_); clear HB hg_ hb_ hbx_; have HB := HBn; clear HBn; have f0 : w1.cell? ⟨g1, 0, none⟩ = some (.int .i64 l.a0) := (blk_cell BK1.out 0).trans rfl; have f1 : w1.cell? ⟨g1, 1, none⟩ = some (.slice A1 l.l1.length c1) := (blk_cell BK1.out 1).trans rfl; have f2 : w1.cell? ⟨g1, 2, none⟩ = some (.slice A2 l.l2.length c2) := (blk_cell BK1.out 2).trans rfl; have f3 : w1.cell? ⟨g1, 3, none⟩ = some (.slice A3 l.l3.length c3) := (blk_cell BK1.out 3).trans rfl; have f4 : w1.cell? ⟨g1, 4, none⟩ = some (.slice A4 l.l4.length c4) := (blk_cell BK1.out 4).trans rfl; have f5 : w1.cell? ⟨g1, 5, none⟩ = some (.slice A5 l.l5.length c5) := (blk_cell BK1.out 5).trans rfl) | (go_at_call 56; go_must (refine (CheckLoft.call ⟨A1, c1, A2, c2, A3, c3, A4, c4, A5, c5⟩ l _ (HR.out.below HB.out)).mono ?_; clear f0 f1 f2 f3 f4 f5; rintro e wE ⟨rfl, hbe⟩; replace BK1 := Aside0.mk (blk_below BK1.out hbe); replace HB := Aside0.mk (below_step HB.out hbe); clear hbe)))
    obtain ⟨gf, hgf⟩ : ∃ k, k = wE.heap.size := ⟨_, rfl⟩
    obtain ⟨gp, hgp⟩ : ∃ k, k = wE.heap.size + 1 := ⟨_, rfl⟩
    obtain ⟨w4, hw4⟩ : ∃ w_, w_ = World.alloc (World.alloc wE (Obj.cells #[.slice none 0 0] 25 (0, 0))) (Obj.cells #[.nilFunc] 141 (0, 0)) := ⟨_, rfl⟩
    have BF : w4.heap[gf]? = some (.cells #[.slice none 0 0] 25 (0, 0)) := by rw [hw4, hgf]; exact blk_alloc (blk_new _ _) _
    have BP : w4.heap[gp]? = some (.cells #[.nilFunc] 141 (0, 0)) := by
      have h_ := blk_new (World.alloc wE (Obj.cells #[.slice none 0 0] 25 (0, 0))) (Obj.cells #[.nilFunc] 141 (0, 0))
      rw [World.size_alloc] at h_
      rw [hw4, hgp]; exact h_
    have hb4 : Below wE.heap.size wE w4 := by rw [hw4]; exact below_alloc (below_alloc (Below.refl _ _) _) _
    have hb04 := below_step HB.out hb4
    replace BK1 := Aside0.mk (blk_below BK1.out hb4)
    rw [← hw4, ← hgp, ← hgf]
    have fp : w4.cell? ⟨gp, 0, none⟩ = some .nilFunc := (blk_cell BP 0).trans rfl
    have ffp := blk_frozen BP 0
    have hwge : w.heap.size ≤ gp := by have := HB.out.size; omega
    have hwgf : w.heap.size ≤ gf := by have := HB.out.size; omega
    have hb5 : Below w.heap.size w (w4.setCell ⟨gp, 0, none⟩ (.func (.func 87) #[] #[.pointer (some ⟨gf, 0, none⟩), .pointer (some ⟨g1, 0, none⟩), .pointer (some ⟨gp, 0, none⟩)])) := below_set hb04 hwge
    have HS := Aside0.mk (show LvS w (w4.setCell ⟨gp, 0, none⟩ (.func (.func 87) #[] #[.pointer (some ⟨gf, 0, none⟩), .pointer (some ⟨g1, 0, none⟩), .pointer (some ⟨gp, 0, none⟩)])) ⟨A1, c1, A2, c2, A3, c3, A4, c4, A5, c5⟩ l g1 gf gp from
      ⟨hb5, HR.out, blk_far BK1.out (blk_ne BK1.out BP (by decide)) _, blk_set BP 0 _, ⟨(none, 0, 0), blk_far BF (blk_ne BF BP (by decide)) _⟩, hwgf⟩)
    clear hw4 hgp hgf hb5 BP BF hb4 hb04 hwge hwgf
    have f15 : (w4.setCell ⟨gp, 0, none⟩ (.func (.func 87) #[] #[.pointer (some ⟨gf, 0, none⟩), .pointer (some ⟨g1, 0, none⟩), .pointer (some ⟨gp, 0, none⟩)])).cell? ⟨g1, 5, none⟩ = some (.slice A5 l.l5.length c5) := (blk_cell HS.out.bl 5).trans rfl
    clear BK1 HB
    go_upto_region 7 with (fail)
    generalize w4.setCell ⟨gp, 0, none⟩ (.func (.func 87) #[] #[.pointer (some ⟨gf, 0, none⟩), .pointer (some ⟨g1, 0, none⟩), .pointer (some ⟨gp, 0, none⟩)]) = w5 at HS f15 ⊢
    clear fp ffp
    go_wp2_with fail
    clear f15
    go_loopw [18] (fun v18 wr => ∃ m : Nat, v18 = .int .i64 (m : Int) ∧ m ≤ l.l5.length + 1 ∧ Aside0 (l.leavesFrom (l.l5.length + 1 - m) m = l.leavesFrom (l.l5.length + 1) 0) ∧ Aside0 (LvS w wr ⟨A1, c1, A2, c2, A3, c3, A4, c4, A5, c5⟩ l g1 gf gp)) (fun v18 _ => (l.l5.length + 1 - intOf v18).toNat)
    case atStart => exact ⟨0, rfl, by omega, ⟨rfl⟩, HS⟩
    case round =>
      clear HS
      obtain ⟨m, rfl, hm, HE, HS⟩ := hrel
      by_cases hlt : m < l.l5.length + 1
      · obtain ⟨r, hr⟩ : ∃ r, r = l.leaveK m [] 0 := ⟨_, rfl⟩
        have HST := Aside0.mk (show l.leavesFrom (l.l5.length + 1) 0 = r.elim (l.leavesFrom (l.l5.length + 1 - (m + 1)) (m + 1)) some by
          rw [← HE.out, hr]
          have hk : l.l5.length + 1 - m = (l.l5.length + 1 - (m + 1)) + 1 := by omega
          rw [hk]; rfl)
        have HC := Aside0.mk (leave_calls ⟨A1, c1, A2, c2, A3, c3, A4, c4, A5, c5⟩ l g1 gf gp w HF.out m [] 0 (.slice none 0 0) wr (by simp; omega) (by omega) (by omega) HS.out (Kd.R_nil _ _ _ _ _))
        rw [← hr] at HC
        have fP : wr.cell? ⟨gp, 0, none⟩ = some (.func (.func 87) #[] #[.pointer (some ⟨gf, 0, none⟩), .pointer (some ⟨g1, 0, none⟩), .pointer (some ⟨gp, 0, none⟩)]) := (blk_cell HS.out.bp 0).trans rfl
        have hwm : IntKind.i64.wrap ((m : Int) + 1) = (m : Int) + 1 := IntWalk.i64_in _ (by omega)
        have hmlt : (m : Int) < (l.l5.length : Int) + 1 := by omega
        clear hr HE
        cases r with
        | some q =>
          have HVQ := Aside0.mk (show dv = q by rw [HV2.out, HST.out]; rfl)
          go_wp2_with (go_at_call 87; go_must (refine HC.out.mono ?_; rintro e wp ⟨rfl, hsp, htp, hqp⟩; (obtain ⟨fv, h1, h2⟩ := hqp q rfl); obtain ⟨fA, fc, rfl⟩ := Kd.R_slice h2; have H1 := Aside0.mk h1; have H2 := Aside0.mk h2; have HSP := Aside0.mk hsp; clear h1 h2 hsp hqp fP; have ff : wp.cell? ⟨gf, 0, none⟩ = some (.slice fA q.length fc) := (blk_cell H1.out 0).trans rfl))
          go_ret2
          exact ⟨_, by rw [HZ.out]; rfl, by rw [HVQ.out]; exact Kd.R_mono H2.out (fun _ _ => trivial), HSP.out.bel⟩
        | none =>
          go_wp2_with (go_at_call 87; go_must (refine HC.out.mono ?_; rintro e wp ⟨rfl, hsp, htp, hqp⟩))
          exact ⟨⟨m + 1, by simp, by omega, ⟨by rw [HST.out]; rfl⟩, ⟨hsp⟩⟩, by simp [intOf]; omega⟩
      · have hme : m = l.l5.length + 1 := by omega
        have h0 : l.leavesFrom (l.l5.length + 1) 0 = none := by rw [← HE.out, hme, Nat.sub_self]; rfl
        exact absurd h0 HNE.out
  · have hzb : (l.fault != 0) = true := by rw [← HER.out]; simpa using hz
    have HV2 := Aside0.mk (show dv = [] by rw [HDV.out, if_pos hz])
    clear hz
    go_wp2_with (first | ((with_reducible refine gate_dst (N := 1) rfl ?_); refine box_event ?hg (N := 1) ?hd (cs := #[.int .i64 l.a0, .slice A1 l.l1.length c1, .slice A2 l.l2.length c2, .slice A3 l.l3.length c3, .slice A4 l.l4.length c4, .slice A5 l.l5.length c5]) (t := 39) ?hr ?_; (case hd => rfl); (case hg => rfl); (case hr => first | (go_simp; done) | (go_simp; rfl)); intro g1 hg_ w1 hbx_ hb_; have BK1 := Aside0.mk hbx_; have g1ge : w.heap.size ≤ g1 := (by have := below_size HB.out; omega); have g1GE := Aside0.mk g1ge; clear g1ge; have HBn := Aside0.mk (below_step HB.out hb_); clear HB hg_ hb_ hbx_; have HB := HBn; clear HBn; have f0 : w1.cell? ⟨g1, 0, none⟩ = some (.int .i64 l.a0) := (blk_cell BK1.out 0).trans rfl; have f1 : w1.cell? ⟨g1, 1, none⟩ = some (.slice A1 l.l1.length c1) := (blk_cell BK1.out 1).trans rfl; have f2 : w1.cell? ⟨g1, 2, none⟩ = some (.slice A2 l.l2.length c2) := (blk_cell BK1.out 2).trans rfl; have f3 : w1.cell? ⟨g1, 3, none⟩ = some (.slice A3 l.l3.length c3) := (blk_cell BK1.out 3).trans rfl; have f4 : w1.cell? ⟨g1, 4, none⟩ = some (.slice A4 l.l4.length c4) := (blk_cell BK1.out 4).trans rfl; have f5 : w1.cell? ⟨g1, 5, none⟩ = some (.slice A5 l.l5.length c5) := (blk_cell BK1.out 5).trans rfl) | (go_at_call 56; go_must (refine (CheckLoft.call ⟨A1, c1, A2, c2, A3, c3, A4, c4, A5, c5⟩ l _ (HR.out.below HB.out)).mono ?_; clear f0 f1 f2 f3 f4 f5; rintro e wE ⟨rfl, hbe⟩; replace BK1 := Aside0.mk (blk_below BK1.out hbe); replace HB := Aside0.mk (below_step HB.out hbe); clear hbe)))
    go_ret2
    exact ⟨_, by rw [HER.out]; rfl, by rw [HV2.out]; exact Kd.R_nil _ _ _ _ _, HB.out⟩
end Go.Proofs.Ytjifalohjlihaaa.Q
end
section
namespace Go.Proofs.Ytjifalohjlihaaa.Q
set_option linter.unusedVariables false
open Go.BigFrame Go.RowKit Go.Shelf Go.Proofs.YtjifalohjlihaaaW.PrintWords Go.Proofs.YtjifalohjlihaaaW.PrintLast Go.Proofs.YtjifalohjlihaaaW.PrintMore
set_option maxRecDepth 100000 in
set_option maxHeartbeats 3200000 in
theorem concat2 (A : Option Addr) (ca : Nat) (xs : List Int) (B : Option Addr) (cb : Nat) (ys : List Int) (g : Nat) (w : World) (hg : w.heap[g]? = some (.cells #[.slice A xs.length ca, .slice B ys.length cb] 25 (0, 0)))
    (hA : Kd.C (Kd.int .i64) w A xs.length xs) (hB : Kd.C (Kd.int .i64) w B ys.length ys) (la : xs.length ≤ 1000) (lb : ys.length ≤ 1000) :
    Calls Try.prog 118 #[.slice (some ⟨g, 0, none⟩) 2 2] w fun e w' => ∃ v, e = .returned v ∧ Kd.R (Kd.int .i64) 3 w' w.heap.size (fun _ => True) v (xs ++ ys) ∧ Below w.heap.size w w' := by
  have HB := Aside0.mk (Below.refl w.heap.size w)
  have HA := Aside0.mk hA
  have HBB := Aside0.mk hB
  have BG := Aside0.mk hg
  clear hA hB hg
  have f0 : w.cell? ⟨g, 0, none⟩ = some (.slice A xs.length ca) := (blk_cell BG.out 0).trans rfl
  have f1 : w.cell? ⟨g, 1, none⟩ = some (.slice B ys.length cb) := (blk_cell BG.out 1).trans rfl
  have hw0 : IntKind.i64.wrap (xs.length : Int) = (xs.length : Int) := IntWalk.i64_in _ (by omega)
  have hw1 : IntKind.i64.wrap ((xs.length : Int) + (ys.length : Int)) = (xs.length : Int) + (ys.length : Int) := IntWalk.i64_in _ (by omega)
  have hn0 : ¬ ((xs.length : Int) < 0) := by omega
  have hn1 : ¬ ((xs.length : Int) + (ys.length : Int) < 0) := by omega
  go_enter Try.func118, Try.ntmps118
  go_wp2
  go_loop [3, 11] (fun v3 v11 => (v3 = .int .i64 0 ∧ v11 = .int .i64 0) ∨ (v3 = .int .i64 (xs.length : Int) ∧ v11 = .int .i64 1) ∨ (v3 = .int .i64 ((xs.length : Int) + (ys.length : Int)) ∧ v11 = .int .i64 2)) (fun _ v11 => (2 - intOf v11).toNat)
  case atStart => exact .inl ⟨rfl, rfl⟩
  case round =>
    rcases hrel with ⟨rfl, rfl⟩ | ⟨rfl, rfl⟩ | ⟨rfl, rfl⟩
    · go_wp2
      exact ⟨.inr (.inl ⟨rfl, rfl⟩), by simp [intOf]⟩
    · go_wp2
      exact ⟨.inr (.inr ⟨rfl, rfl⟩), by simp [intOf]⟩
    · go_wp2_with (go_at_call 135; go_must (refine (slices_Grow_int_int.calls none 0 [] ((xs.length : Int) + (ys.length : Int)) [] w (Kd.C_nil (Kd.int .i64) w) (Nat.le_refl _) (by unfold slices_Grow_int_int.f; rw [if_pos ⟨rfl, by omega, by omega⟩])).mono ?_; clear f0 f1; rintro e w1 ⟨v0, rfl, ho, hb⟩; have HO := Aside0.mk ho; replace HB := Aside0.mk hb; clear ho hb))
      go_loopw [6, 27] (fun v6 v27 wr => ∃ acc : List Int, (([] = acc ∧ v27 = .int .i64 0) ∨ (xs = acc ∧ v27 = .int .i64 1) ∨ (xs ++ ys = acc ∧ v27 = .int .i64 2)) ∧ Aside0 (Kd.R (Kd.int .i64) 3 wr w.heap.size (fun _ => True) v6 acc) ∧ Aside0 (Below w.heap.size w wr)) (fun _ v27 _ => (2 - intOf v27).toNat)
      case atStart => exact ⟨[], .inl ⟨rfl, rfl⟩, HO, HB⟩
      case round =>
        clear HO HB
        obtain ⟨acc, hd, HO, HB⟩ := hrel
        have BR := Aside0.mk (blk_below BG.out HB.out)
        have f0 : wr.cell? ⟨g, 0, none⟩ = some (.slice A xs.length ca) := (blk_cell BR.out 0).trans rfl
        have f1 : wr.cell? ⟨g, 1, none⟩ = some (.slice B ys.length cb) := (blk_cell BR.out 1).trans rfl
        rcases hd with ⟨rfl, rfl⟩ | ⟨rfl, rfl⟩ | ⟨rfl, rfl⟩
        · go_wp2_with (first | ((with_reducible refine gate_builtin (b := .append) (xs := #[.tmp 31, .tmp 32]) rfl ?_); at_builtin; refine Kd.R_append_rows (Kd.int .i64) (w0 := w) w.heap.size rfl (.tmp 31) (.tmp 32) 25 3 (.int .i64 0) 8 rfl Try.underlying25 info3 rfl (by decide) (by omega) _ [] xs _ _ _ (fun _ => True) (fun _ => False) rfl rfl ?aO ?aR (fun _ _ h => h) (fun _ h => h.elim) ?aF ?aB ?aS ?aL ?_; (case aR => exact Kd.C_below HA.out HB.out); (case aB => exact HB.out); (case aF => exact (fun _ _ => trivial)); (case aO => exact HO.out); (case aS => exact below_size HB.out); (case aL => first | (simp only [List.length_nil]; omega) | omega); intro v17 w12 ho hb hg hat; have HO2 := Aside0.mk ho; have HB2 := Aside0.mk hb; clear ho hb hg hat HO HB))
          go_roundw
          case measure => simp [intOf]
          case rel => exact ⟨xs, .inr (.inl ⟨rfl, rfl⟩), HO2, HB2⟩
        · go_wp2_with (first | ((with_reducible refine gate_builtin (b := .append) (xs := #[.tmp 31, .tmp 32]) rfl ?_); at_builtin; refine Kd.R_append_rows (Kd.int .i64) (w0 := w) w.heap.size rfl (.tmp 31) (.tmp 32) 25 3 (.int .i64 0) 8 rfl Try.underlying25 info3 rfl (by decide) (by omega) _ xs ys _ _ _ (fun _ => True) (fun _ => False) rfl rfl ?aO ?aR (fun _ _ h => h) (fun _ h => h.elim) ?aF ?aB ?aS ?aL ?_; (case aR => exact Kd.C_below HBB.out HB.out); (case aB => exact HB.out); (case aF => exact (fun _ _ => trivial)); (case aO => exact HO.out); (case aS => exact below_size HB.out); (case aL => first | (simp only [List.length_nil]; omega) | omega); intro v17 w12 ho hb hg hat; have HO2 := Aside0.mk ho; have HB2 := Aside0.mk hb; clear ho hb hg hat HO HB))
          go_roundw
          case measure => simp [intOf]
          case rel => exact ⟨xs ++ ys, .inr (.inr ⟨rfl, rfl⟩), HO2, HB2⟩
        · go_wp2
          go_ret
          exact ⟨_, rfl, HO.out, HB.out⟩
end Go.Proofs.Ytjifalohjlihaaa.Q
end
section
namespace Go.Proofs.Ytjifalohjlihaaa.Q
set_option linter.unusedVariables false
open Go.BigFrame Go.RowKit Go.Shelf Go.Proofs.YtjifalohjlihaaaW.PrintWords Go.Proofs.YtjifalohjlihaaaW.PrintLast Go.Proofs.YtjifalohjlihaaaW.PrintMore
def SL.isListed (l : SL) (ta tw : List Int) : Prop := ta.length = l.l1.length ∧ tw.length = l.l3.length ∧ ∀ j : Nat, j < l.ranges.length → (rd_T56 l.ranges j).f0 ≤ rd (ta ++ tw) j ∧ rd (ta ++ tw) j ≤ (rd_T56 l.ranges j).f1
instance (l : SL) (ta tw : List Int) : Decidable (l.isListed ta tw) := by unfold SL.isListed; infer_instance
def pad11 (ns : List Int) : List Int := ns ++ List.replicate (11 - ns.length) 0
def SL.listed (l : SL) (ta tw : List Int) : List Int := if l.isListed ta tw then pad11 (ta ++ tw) else []
theorem pad_splice {ns : List Int} (h : ns.length ≤ 11) : (Go.splice (lit11 []).toList 0 (nums .i64 ns)).toArray = lit11 (pad11 ns) := by
  have h1 : (pad11 ns).length = 11 := by unfold pad11; rw [List.length_append, List.length_replicate]; omega
  rw [← nums_lit h1]
  have h2 : (lit11 []).toList = List.replicate 11 (.int .i64 0) := rfl
  rw [h2]
  unfold Go.splice pad11 nums
  rw [List.take_zero, List.nil_append, List.drop_replicate, List.map_append, List.map_replicate, List.length_map, Nat.zero_add]
theorem wpList_same_row {P : Program} {ops : Array Oper} {rest : List Oper} {o : Oper} {a : Act} {w : World} {Q : Exit → Act → World → Prop} (hgd : o.guard = none) (ty : TypeId) (x y : Operand) (ho : o.op = .store ty x y)
    (g : Nat) (cells : Array Value) (hx : a.eval x = .pointer (some ⟨g, 0, none⟩)) (hy : a.eval y = .agg cells)
    (t : TypeId) (hg : w.heap[g]? = some (.cells cells t (0, 0))) (hi : (P.info? ty).map (·.size) = some cells.size)
    (h1 : cells.all (·.oneCell') = true)
    (h : wpList P ops Q rest (a.put o.dst undef) w) : wpList P ops Q (o :: rest) a w :=
  wpList_store_row hgd ty x y ho g cells hx hy t cells hg hi rfl h1 (by rw [setRow_self w g cells t (0, 0) hg]; exact h)
theorem nums_length (ns : List Int) : (nums .i64 ns).length = ns.length := by simp [nums]
theorem nums_one (ns : List Int) : ∀ v ∈ nums .i64 ns, v.oneCell' = true := by intro v hv; simp only [nums, List.mem_map] at hv; obtain ⟨n, _, rfl⟩ := hv; rfl
theorem copy_src {w : World} {A : Option Addr} {q : List Int} {g : Nat} (h : Kd.C (Kd.int .i64) w A q.length q) : 0 < (nums .i64 q).length → some (⟨g, 0, none⟩ : Addr) = some ⟨g, 0, none⟩ ∧ ∃ ad, A = some ad ∧ ∀ (j : Nat) (v : Value), (nums .i64 q)[j]? = some v → w.cell? (ad.add j) = some v := by
  intro hl
  rw [nums_length] at hl
  obtain ⟨ad, e, _⟩ := rowB h 0 (by omega) (by omega)
  refine ⟨rfl, ad, e, fun j v hv => ?_⟩
  have hj : j < q.length := by have := (List.getElem?_eq_some_iff.1 hv).1; rw [nums_length] at this; exact this
  obtain ⟨ad', e', hc⟩ := rowB h (j : Int) (by omega) (by omega)
  obtain rfl : ad = ad' := by rw [e] at e'; exact Option.some.inj e'
  rw [Int.toNat_natCast] at hc
  rw [hc]
  have h2 := nums_at q (j : Int) (by omega) (by omega)
  rw [Int.toNat_natCast, List.getElem?_toArray, hv] at h2
  exact h2.symm
theorem one11 (ns : List Int) : (lit11 ns).all (·.oneCell') = true := by simp [Value.oneCell']
theorem load_nums {w : World} {g : Nat} {ns : List Int} {t : TypeId} (h : w.heap[g]? = some (.cells (lit11 ns) t (0, 0))) : (loadVar 147 ⟨g, 0, none⟩).run Try.prog w = .ok (.agg (lit11 ns)) w :=
  run_loadVar_row w g t 147 _ (0, 0) _ h under147 rfl (by kernel_rfl)
set_option maxRecDepth 100000 in
set_option maxHeartbeats 6400000 in
theorem listed_calls (x : SA) (l : SL) (TA : Option Addr) (ca : Nat) (ta : List Int) (TB : Option Addr) (cb : Nat) (tw : List Int) (w : World) (hr : Rd w x l) (hf : l.fault = 0) (hA : Kd.C (Kd.int .i64) w TA ta.length ta) (hB : Kd.C (Kd.int .i64) w TB tw.length tw) :
    Calls Try.prog 93 #[.agg (x.cells l), .agg #[.slice TA ta.length ca, .slice TB tw.length cb]] w fun e w' => e = .returned (.tuple #[.agg (lit11 (l.listed ta tw)), .bool (decide (l.isListed ta tw))]) ∧ Below w.heap.size w w' := by
  obtain ⟨A1, c1, A2, c2, A3, c3, A4, c4, A5, c5⟩ := x
  have HB := Aside0.mk (Below.refl w.heap.size w)
  have HR := Aside0.mk hr
  have HA := Aside0.mk hA
  have HBB := Aside0.mk hB
  have hc5 := (valid_of hf).cake5
  have la5 := (valid_of hf).last5
  have hair := Aside0.mk (valid_of hf).air
  have HV := Aside0.mk (valid_of hf)
  obtain ⟨ns, hns⟩ : ∃ ns, ns = l.listed ta tw := ⟨_, rfl⟩
  obtain ⟨b, hb⟩ : ∃ b, b = decide (l.isListed ta tw) := ⟨_, rfl⟩
  have HBD := Aside0.mk hb
  have HNS := Aside0.mk (show ns = if b then pad11 (ta ++ tw) else [] by rw [hns, hb]; unfold SL.listed; by_cases h : l.isListed ta tw <;> simp [h])
  rw [← hns, ← hb]
  clear hr hA hB hf hns hb
  go_enter Try.func93, Try.ntmps93
  go_upto_region 1 with (first | ((with_reducible refine gate_dst (N := 2) rfl ?_); refine box_event ?hg (N := 2) ?hd (cs := #[.int .i64 l.a0, .slice A1 l.l1.length c1, .slice A2 l.l2.length c2, .slice A3 l.l3.length c3, .slice A4 l.l4.length c4, .slice A5 l.l5.length c5]) (t := 39) ?hr ?_; (case hd => rfl); (case hg => rfl); (case hr => first | (go_simp; done) | (go_simp; rfl)); intro g2 hg_ w2 hbx_ hb_; have BK2 := Aside0.mk hbx_; have g2ge : w.heap.size ≤ g2 := (by have := below_size HB.out; omega); have g2GE := Aside0.mk g2ge; clear g2ge; have HBn := Aside0.mk (below_step HB.out hb_); clear HB hg_ hb_ hbx_; have HB := HBn; clear HBn) | ((with_reducible refine gate_dst (N := 3) rfl ?_); refine box_event ?hg (N := 3) ?hd (cs := #[.slice TA ta.length ca, .slice TB tw.length cb]) (t := 82) ?hr ?_; (case hd => rfl); (case hg => rfl); (case hr => first | (go_simp; done) | (go_simp; rfl)); intro g3 hg_ w3 hbx_ hb_; have BK3 := Aside0.mk hbx_; have g3ge : w.heap.size ≤ g3 := (by have := below_size HB.out; omega); have g3GE := Aside0.mk g3ge; clear g3ge; have HBn := Aside0.mk (below_step HB.out hb_); have z_ := Aside0.mk (blk_below BK2.out hb_); clear BK2; have BK2 := z_; clear z_; clear HB hg_ hb_ hbx_; have HB := HBn; clear HBn))
  obtain ⟨g4, hg_⟩ : ∃ g_, g_ = w3.heap.size := ⟨_, rfl⟩
  obtain ⟨w4, hw_⟩ : ∃ w_, w_ = World.alloc w3 (Obj.cells #[.int .i64 0, .int .i64 0, .int .i64 0, .int .i64 0, .int .i64 0, .int .i64 0, .int .i64 0, .int .i64 0, .int .i64 0, .int .i64 0, .int .i64 0] 147) := ⟨_, rfl⟩
  have hb_ : Below w3.heap.size w3 w4 := by rw [hw_]; exact below_alloc (Below.refl _ _) _
  have BK4 : Aside0 (w4.heap[g4]? = some (Obj.cells #[.int .i64 0, .int .i64 0, .int .i64 0, .int .i64 0, .int .i64 0, .int .i64 0, .int .i64 0, .int .i64 0, .int .i64 0, .int .i64 0, .int .i64 0] 147)) := ⟨by rw [hw_, hg_]; exact blk_new _ _⟩
  have g4GE : Aside0 (w.heap.size ≤ g4) := ⟨by have := below_size HB.out; rw [hg_]; exact this⟩
  replace BK2 := Aside0.mk (blk_below BK2.out hb_)
  replace BK3 := Aside0.mk (blk_below BK3.out hb_)
  replace HB := Aside0.mk (below_step HB.out hb_)
  rw [← hw_, ← hg_]
  clear hw_ hg_ hb_
  have t0 : w4.cell? ⟨g3, 0, none⟩ = some (.slice TA ta.length ca) := (blk_cell BK3.out 0).trans rfl
  have t1 : w4.cell? ⟨g3, 1, none⟩ = some (.slice TB tw.length cb) := (blk_cell BK3.out 1).trans rfl
  have f0 : w4.cell? ⟨g2, 0, none⟩ = some (.int .i64 l.a0) := (blk_cell BK2.out 0).trans rfl
  have f1 : w4.cell? ⟨g2, 1, none⟩ = some (.slice A1 l.l1.length c1) := (blk_cell BK2.out 1).trans rfl
  have f2 : w4.cell? ⟨g2, 2, none⟩ = some (.slice A2 l.l2.length c2) := (blk_cell BK2.out 2).trans rfl
  have f3 : w4.cell? ⟨g2, 3, none⟩ = some (.slice A3 l.l3.length c3) := (blk_cell BK2.out 3).trans rfl
  have f4 : w4.cell? ⟨g2, 4, none⟩ = some (.slice A4 l.l4.length c4) := (blk_cell BK2.out 4).trans rfl
  have f5 : w4.cell? ⟨g2, 5, none⟩ = some (.slice A5 l.l5.length c5) := (blk_cell BK2.out 5).trans rfl
  by_cases ha : ta.length = l.l1.length
  · by_cases hw : tw.length = l.l3.length
    · have hab : ((ta.length : Int) != (l.l1.length : Int)) = false := by rw [ha]; exact bne_self_eq_false _
      have hwb : ((tw.length : Int) != (l.l3.length : Int)) = false := by rw [hw]; exact bne_self_eq_false _
      have HLA := Aside0.mk ha
      have HLW := Aside0.mk hw
      have hlq : (ta ++ tw).length ≤ 11 := by have := hair.out; rw [List.length_append]; omega
      have hrl : l.ranges.length = (ta ++ tw).length := by have := hair.out; rw [ranges_length, List.length_append]; omega
      clear ha hw
      clear f0 f2 f4 f5
      go_wp2_with (first | (go_at_call 118; go_must (refine (concat2 TA ca ta TB cb tw _ _ (blk_new _ _) (Kd.C_below HA.out (below_alloc HB.out _)) (Kd.C_below HBB.out (below_alloc HB.out _)) (by rw [HLA.out]; have := hair.out; omega) (by rw [HLW.out]; omega)).mono ?_; rintro e wC ⟨v, rfl, ho, hb⟩; obtain ⟨Aq, cq, rfl, hle, hC⟩ := Kd.R_reads ho; obtain ⟨q, hq⟩ : ∃ q, q = ta ++ tw := ⟨_, rfl⟩; rw [← hq] at hC hle hlq hrl ⊢; have HQE := Aside0.mk hq; have HLE := Aside0.mk hle; have HQ := Aside0.mk hC; clear f1 f3 t0 t1 hle hC hq ho; replace BK2 := Aside0.mk (blk_below (blk_alloc BK2.out _) hb); replace BK3 := Aside0.mk (blk_below (blk_alloc BK3.out _) hb); replace BK4 := Aside0.mk (blk_below (blk_alloc BK4.out _) hb); replace HB := Aside0.mk (below_step (below_alloc HB.out _) hb); clear hb; have f0 : wC.cell? ⟨g2, 0, none⟩ = some (.int .i64 l.a0) := (blk_cell BK2.out 0).trans rfl; have f1 : wC.cell? ⟨g2, 1, none⟩ = some (.slice A1 l.l1.length c1) := (blk_cell BK2.out 1).trans rfl; have f2 : wC.cell? ⟨g2, 2, none⟩ = some (.slice A2 l.l2.length c2) := (blk_cell BK2.out 2).trans rfl; have f3 : wC.cell? ⟨g2, 3, none⟩ = some (.slice A3 l.l3.length c3) := (blk_cell BK2.out 3).trans rfl; have f4 : wC.cell? ⟨g2, 4, none⟩ = some (.slice A4 l.l4.length c4) := (blk_cell BK2.out 4).trans rfl; have f5 : wC.cell? ⟨g2, 5, none⟩ = some (.slice A5 l.l5.length c5) := (blk_cell BK2.out 5).trans rfl)) | (go_at_call 105; go_must (refine (L_ranges.call ⟨A1, c1, A2, c2, A3, c3, A4, c4, A5, c5⟩ l _ (HR.out.below HB.out) (by have := hair.out; omega) (by omega)).mono ?_; rintro e wR ⟨v, rfl, ho, hb⟩; obtain ⟨Ar, cr, rfl, hle, hC⟩ := Kd.R_reads ho; have HLR := Aside0.mk hle; have HRN := Aside0.mk hC; replace HQ := Aside0.mk (Kd.C_below HQ.out hb); clear f0 f1 f2 f3 f4 f5 hle hC ho; replace BK2 := Aside0.mk (blk_below BK2.out hb); replace BK3 := Aside0.mk (blk_below BK3.out hb); replace BK4 := Aside0.mk (blk_below BK4.out hb); replace HB := Aside0.mk (below_step HB.out hb); clear hb)))
      have hj0 : ∀ k : Nat, k < 0 → (rd_T56 l.ranges k).f0 ≤ rd q k ∧ rd q k ≤ (rd_T56 l.ranges k).f1 := fun k hk => absurd hk (Nat.not_lt_zero _)
      have HJ0 := Aside0.mk hj0
      clear hj0
      go_loopw [35] (fun v35 wr => ∃ j : Nat, v35 = .int .i64 (j : Int) ∧ j ≤ q.length ∧ Aside0 (∀ k : Nat, k < j → (rd_T56 l.ranges k).f0 ≤ rd q k ∧ rd q k ≤ (rd_T56 l.ranges k).f1) ∧ Aside0 (Kd.C (Kd.int .i64) wr Aq q.length q) ∧ Aside0 (Kd.C k56 wr Ar l.ranges.length l.ranges) ∧ Aside0 (wr.heap[g4]? = some (.cells #[.int .i64 0, .int .i64 0, .int .i64 0, .int .i64 0, .int .i64 0, .int .i64 0, .int .i64 0, .int .i64 0, .int .i64 0, .int .i64 0, .int .i64 0] 147 (0, 0))) ∧ Aside0 (Below w.heap.size w wr)) (fun v35 _ => (q.length - intOf v35).toNat)
      case atStart => exact ⟨0, rfl, Nat.zero_le _, HJ0, HQ, HRN, BK4, HB⟩
      case round =>
        clear HQ HRN BK4 HB HJ0
        obtain ⟨j, rfl, hj, HJ, HQ, HRN, BK4, HB⟩ := hrel
        by_cases hlt : j < q.length
        · obtain ⟨adr, er, fr0, fr1⟩ := at_T56 HRN.out (j : Int) (by omega) (by omega)
          obtain ⟨adq, eq_, fq⟩ := rowB HQ.out (j : Int) (by omega) (by omega)
          subst er eq_
          rw [Int.toNat_natCast] at fr0 fr1 fq
          obtain ⟨lo, hlo⟩ : ∃ lo, lo = (rd_T56 l.ranges (j : Int)).f0 := ⟨_, rfl⟩
          obtain ⟨hi, hhi⟩ : ∃ hi, hi = (rd_T56 l.ranges (j : Int)).f1 := ⟨_, rfl⟩
          obtain ⟨nj, hnj⟩ : ∃ nj, nj = rd q (j : Int) := ⟨_, rfl⟩
          rw [← hlo] at fr0
          rw [← hhi] at fr1
          rw [← hnj] at fq
          obtain ⟨bv, hbv⟩ : ∃ bv, bv = decide (lo ≤ nj ∧ nj ≤ hi) := ⟨_, rfl⟩
          have HBV := Aside0.mk hbv
          have HLO := Aside0.mk hlo
          have HHI := Aside0.mk hhi
          have HNJ := Aside0.mk hnj
          have hlti : (j : Int) < (q.length : Int) := by omega
          have hwj : IntKind.i64.wrap ((j : Int) + 1) = (j : Int) + 1 := IntWalk.i64_in _ (by omega)
          clear hlo hhi hnj hbv
          go_upto_region 7 with (fail)
          obtain ⟨g8, hg_⟩ : ∃ g_, g_ = wr.heap.size := ⟨_, rfl⟩
          obtain ⟨w8, hw_⟩ : ∃ w_, w_ = World.alloc wr (Obj.cells #[.int .i64 lo, .int .i64 hi] 56) := ⟨_, rfl⟩
          have hb_ : Below wr.heap.size wr w8 := by rw [hw_]; exact below_alloc (Below.refl _ _) _
          have BK8 : Aside0 (w8.heap[g8]? = some (Obj.cells #[.int .i64 lo, .int .i64 hi] 56)) := ⟨by rw [hw_, hg_]; exact blk_new _ _⟩
          have g8GE : Aside0 (w.heap.size ≤ g8) := ⟨by have := below_size HB.out; rw [hg_]; exact this⟩
          replace BK4 := Aside0.mk (blk_below BK4.out hb_)
          replace HQ := Aside0.mk (Kd.C_below HQ.out hb_)
          replace HRN := Aside0.mk (Kd.C_below HRN.out hb_)
          have FQ := Aside0.mk ((hb_.cell (World.block_lt_of_cell? wr _ fq)).trans fq)
          replace HB := Aside0.mk (below_step HB.out hb_)
          rw [← hw_, ← hg_]
          clear hw_ hg_ hb_
          clear fr0 fr1 fq
          go_wp2_with fail
          replace BK8 := Aside0.mk (blk_drew BK8.out)
          replace BK4 := Aside0.mk (blk_drew BK4.out)
          replace HQ := Aside0.mk (Kd.C_below HQ.out (below_drew1 (Below.refl _ _)))
          replace HRN := Aside0.mk (Kd.C_below HRN.out (below_drew1 (Below.refl _ _)))
          replace FQ := Aside0.mk (show w8.drew.cell? (adq.add j) = _ from FQ.out)
          replace HB := Aside0.mk (below_drew1 HB.out)
          refine start_ (n := 7) (S := fun w' => w'.cell? ⟨g8, 0, none⟩ = some (.int .i64 lo) ∧ w'.cell? ⟨g8, 1, none⟩ = some (.int .i64 hi) ∧ w'.cell? (adq.add j) = some (.int .i64 nj)) (ds := []) #[false, false, false, false, false, false, false] (by kernel_rfl) rfl rfl ⟨(blk_cell BK8.out 0).trans rfl, (blk_cell BK8.out 1).trans rfl, FQ.out⟩ (fun hHeld => ?_)
          generalize w8.drew = wd at BK8 BK4 HQ HRN FQ HB hHeld ⊢
          refine take_ (i := 0) (N := some 40) (v := ?_) (a' := ?_) #[true, false, false, false, false, false, false] rfl rfl (by kernel_rfl) (fun _ _ _ h => h) (Or.inl ⟨by rfl, ?_⟩) hHeld ?_ ?_
          rotate_left
          · rintro w' ⟨s0, s1, s2⟩
            go_simp
            with_reducible rfl
          rotate_left
          · simp only [Act.put, List.setIfInBounds_toArray, List.set_cons_zero, List.set_cons_succ]; rfl
          refine pure_ (i := 1) (N := some 41) (v := ?_) (a' := ?_) #[true, true, false, false, false, false, false] rfl rfl (by kernel_rfl) (fun _ _ _ h => h) (Or.inl ⟨by rfl, ?_⟩) ?_ ?_
          rotate_left
          · intro w'
            go_simp
            with_reducible rfl
          rotate_left
          · simp only [Act.put, List.setIfInBounds_toArray, List.set_cons_zero, List.set_cons_succ]; rfl
          refine pure_ (i := 2) (N := some 42) (v := ?_) (a' := ?_) #[true, true, true, false, false, false, false] rfl rfl (by kernel_rfl) (fun _ _ _ h => h) (Or.inl ⟨by rfl, ?_⟩) ?_ ?_
          rotate_left
          · intro w'
            go_simp
            with_reducible rfl
          rotate_left
          · simp only [Act.put, List.setIfInBounds_toArray, List.set_cons_zero, List.set_cons_succ]; rfl
          refine take_ (i := 3) (N := some 43) (v := ?_) (a' := ?_) #[true, true, true, true, false, false, false] rfl rfl (by kernel_rfl) (fun _ _ _ h => h) (Or.inl ⟨by rfl, ?_⟩) hHeld ?_ ?_
          rotate_left
          · rintro w' ⟨s0, s1, s2⟩
            go_simp
            with_reducible rfl
          rotate_left
          · simp only [Act.put, List.setIfInBounds_toArray, List.set_cons_zero, List.set_cons_succ]; rfl
          refine take_ (i := 4) (N := some 44) (v := ?_) (a' := ?_) #[true, true, true, true, true, false, false] rfl rfl (by kernel_rfl) (fun _ _ _ h => h) (Or.inl ⟨by rfl, ?_⟩) hHeld ?_ ?_
          rotate_left
          · rintro w' ⟨s0, s1, s2⟩
            go_simp
            with_reducible rfl
          rotate_left
          · simp only [Act.put, List.setIfInBounds_toArray, List.set_cons_zero, List.set_cons_succ]; rfl
          refine one_ (i := 5) (N := some 45) #[true, true, true, true, true, true, false] rfl rfl (by kernel_rfl) (by decide) (fun K hK => ?_)
          refine goes_ Try.func119 (by kernel_rfl) rfl #[.agg #[.int .i64 lo, .int .i64 hi], .int .i64 nj] (by rfl) rfl rfl (by (try simp only [List.map_toArray, List.map_cons, List.map_nil]); rfl) ?_
          refine (shelf_Range_has.calls lo hi nj bv wd (by rw [has_some, HBV.out])).mono ?_
          rintro e wl ⟨rfl, hb⟩
          refine ⟨_, rfl, ?_⟩
          replace BK8 := Aside0.mk (blk_below BK8.out hb)
          replace BK4 := Aside0.mk (blk_below BK4.out hb)
          replace HQ := Aside0.mk (Kd.C_below HQ.out hb)
          replace HRN := Aside0.mk (Kd.C_below HRN.out hb)
          replace FQ := Aside0.mk ((hb.cell (World.block_lt_of_cell? wd _ FQ.out)).trans FQ.out)
          replace HB := Aside0.mk (below_step HB.out hb)
          clear hb
          refine hK.out _ _ ⟨(blk_cell BK8.out 0).trans rfl, (blk_cell BK8.out 1).trans rfl, FQ.out⟩ (fun hHeld => ?_)
          clear hK K
          refine norm_ (a' := ?_) ?_ ?_
          rotate_left
          · show Act.put _ (some 45) _ = _; simp only [Act.put, List.setIfInBounds_toArray, List.set_cons_zero, List.set_cons_succ]; rfl
          refine pure_ (i := 6) (N := some 46) (v := ?_) (a' := ?_) #[true, true, true, true, true, true, true] rfl rfl (by kernel_rfl) (fun _ _ _ h => h) (Or.inl ⟨by rfl, ?_⟩) ?_ ?_
          rotate_left
          · intro w'
            go_simp
            with_reducible rfl
          rotate_left
          · simp only [Act.put, List.setIfInBounds_toArray, List.set_cons_zero, List.set_cons_succ]; rfl
          refine done_ (by kernel_rfl) ?_
          cases bv with
          | true =>
            go_wp2_with fail
            have hbv : lo ≤ nj ∧ nj ≤ hi := of_decide_eq_true HBV.out.symm
            refine ⟨⟨j + 1, by simp, by omega, ⟨fun k hk => ?_⟩, HQ, HRN, BK4, HB⟩, by simp [intOf]; omega⟩
            by_cases hkj : k < j
            · exact HJ.out k hkj
            · obtain rfl : k = j := by omega
              rw [← HLO.out, ← HHI.out, ← HNJ.out]; exact hbv
          | false =>
            have hbv : ¬ (lo ≤ nj ∧ nj ≤ hi) := of_decide_eq_false HBV.out.symm
            have HBF := Aside0.mk (show b = false by
              rw [HBD.out]
              refine decide_eq_false (fun h => hbv ?_)
              have h2 := h.2.2 j (by rw [hrl]; exact hlt)
              rw [← HQE.out, ← HLO.out, ← HHI.out, ← HNJ.out] at h2
              exact h2)
            have HN0 := Aside0.mk (show ns = [] by rw [HNS.out, HBF.out]; rfl)
            clear hbv
            go_wp2_with (first | ((with_reducible refine wpList_load_row (o := ⟨some 47, _, _, _, _, _⟩) rfl 147 (.tmp 4) rfl g4 ?_ 147 (lit11 []) (0, 0) (.array 11 3) ?_ ?_ ?_ ?_ ?_); exact rfl; exact BK4.out; exact under147; exact rfl; kernel_rfl) | ((with_reducible refine wpList_same_row (o := ⟨none, _, _, _, _, _⟩) rfl 147 (.tmp 4) (.tmp 47) rfl g4 (lit11 []) ?_ ?_ 147 ?_ ?_ ?_ ?_); exact rfl; exact rfl; exact BK4.out; kernel_rfl; exact one11 _))
            refine bodyPost_ret (results_cell2 rfl rfl (load_nums (ns := []) BK4.out)) rfl ?_
            exact ⟨by rw [HBF.out, HN0.out]; rfl, HB.out⟩
        · have hje : j = q.length := by omega
          subst hje
          have HBT := Aside0.mk (show b = true by
            rw [HBD.out]
            refine decide_eq_true ⟨HLA.out, HLW.out, fun k hk => ?_⟩
            rw [← HQE.out]; exact HJ.out k (by rw [hrl] at hk; exact hk))
          have HN1 := Aside0.mk (show ns = pad11 q by rw [HNS.out, HBT.out, HQE.out]; rfl)
          have hlti : (q.length : Int) ≤ (q.length : Int) := Int.le_refl _
          go_wp2_with (first | ((with_reducible refine wpList_copy_splice (o := ⟨some 51, _, _, _, _, _⟩) rfl (.tmp 49) (.tmp 50) 25 25 rfl 3 Try.underlying25 ?_ (some ⟨g4, 0, none⟩) Aq 11 11 q.length cq ?_ ?_ g4 0 (lit11 []).toList 147 ?_ (nums .i64 q) ?_ ?_ ?_ ?_ w.heap.size w ?_ ?_ ?_); kernel_rfl; exact rfl; exact rfl; exact BK4.out; exact (by rw [nums_length]; exact (Nat.min_eq_left hlq).symm); exact (copy_src HQ.out); exact (by rw [nums_length]; exact (show 0 + q.length ≤ 11 by omega)); exact nums_one q; exact HB.out; exact g4GE.out; intro w9 hg9 hb9; replace BK4 := Aside0.mk ((congrArg (fun x_ => w9.heap[g4]? = some (.cells x_ 147 (0, 0))) (pad_splice hlq)).mp hg9.out); replace HB := Aside0.mk hb9; clear hg9 hb9) | ((with_reducible refine wpList_load_row (o := ⟨some 52, _, _, _, _, _⟩) rfl 147 (.tmp 4) rfl g4 ?_ 147 (lit11 (pad11 q)) (0, 0) (.array 11 3) ?_ ?_ ?_ ?_ ?_); exact rfl; exact BK4.out; exact under147; exact rfl; kernel_rfl) | ((with_reducible refine wpList_same_row (o := ⟨none, _, _, _, _, _⟩) rfl 147 (.tmp 4) (.tmp 52) rfl g4 (lit11 (pad11 q)) ?_ ?_ 147 ?_ ?_ ?_ ?_); exact rfl; exact rfl; exact BK4.out; kernel_rfl; exact one11 _))
          refine bodyPost_ret (results_cell2 rfl rfl (load_nums (ns := pad11 q) BK4.out)) rfl ?_
          exact ⟨by rw [HBT.out, HN1.out]; rfl, HB.out⟩
    · have hab : ((ta.length : Int) != (l.l1.length : Int)) = false := by rw [ha]; exact bne_self_eq_false _
      have hwb : ((tw.length : Int) != (l.l3.length : Int)) = true := by rw [bne_iff_ne]; omega
      have HBF := Aside0.mk (show b = false by rw [HBD.out]; exact decide_eq_false (fun h => hw h.2.1))
      have HN0 := Aside0.mk (show ns = [] by rw [HNS.out, HBF.out]; rfl)
      clear ha hw
      go_wp2_with (first | ((with_reducible refine wpList_load_row (o := ⟨some 25, _, _, _, _, _⟩) rfl 147 (.tmp 4) rfl g4 ?_ 147 (lit11 []) (0, 0) (.array 11 3) ?_ ?_ ?_ ?_ ?_); exact rfl; exact BK4.out; exact under147; exact rfl; kernel_rfl) | ((with_reducible refine wpList_same_row (o := ⟨none, _, _, _, _, _⟩) rfl 147 (.tmp 4) (.tmp 25) rfl g4 (lit11 []) ?_ ?_ 147 ?_ ?_ ?_ ?_); exact rfl; exact rfl; exact BK4.out; kernel_rfl; exact one11 _))
      refine bodyPost_ret (results_cell2 rfl rfl (load_nums (ns := []) BK4.out)) rfl ?_
      exact ⟨by rw [HBF.out, HN0.out]; rfl, HB.out⟩
  · have hab : ((ta.length : Int) != (l.l1.length : Int)) = true := by rw [bne_iff_ne]; omega
    have HBF := Aside0.mk (show b = false by rw [HBD.out]; exact decide_eq_false (fun h => ha h.1))
    have HN0 := Aside0.mk (show ns = [] by rw [HNS.out, HBF.out]; rfl)
    clear ha
    go_wp2_with (first | ((with_reducible refine wpList_load_row (o := ⟨some 25, _, _, _, _, _⟩) rfl 147 (.tmp 4) rfl g4 ?_ 147 (lit11 []) (0, 0) (.array 11 3) ?_ ?_ ?_ ?_ ?_); exact rfl; exact BK4.out; exact under147; exact rfl; kernel_rfl) | ((with_reducible refine wpList_same_row (o := ⟨none, _, _, _, _, _⟩) rfl 147 (.tmp 4) (.tmp 25) rfl g4 (lit11 []) ?_ ?_ 147 ?_ ?_ ?_ ?_); exact rfl; exact rfl; exact BK4.out; kernel_rfl; exact one11 _))
    refine bodyPost_ret (results_cell2 rfl rfl (load_nums (ns := []) BK4.out)) rfl ?_
    exact ⟨by rw [HBF.out, HN0.out]; rfl, HB.out⟩
end Go.Proofs.Ytjifalohjlihaaa.Q
end
section
namespace Go.Proofs.Ytjifalohjlihaaa.Q
set_option linter.unusedVariables false
open Go.BigFrame Go.RowKit Go.Shelf Go.Proofs.YtjifalohjlihaaaW.PrintWords Go.Proofs.YtjifalohjlihaaaW.PrintLast Go.Proofs.YtjifalohjlihaaaW.PrintMore
theorem num_listed {l : SL} (hv : Valid l) {ta tw : List Int} (h : l.isListed ta tw) : Num (l.listed ta tw) := by
  have hn : l.listed ta tw = pad11 (ta ++ tw) := if_pos h
  have hl : (ta ++ tw).length ≤ 11 := by have := hv.air; have := hv.last5; have := hv.cake5; rw [List.length_append, h.1, h.2.1]; omega
  have hrl : l.ranges.length = (ta ++ tw).length := by rw [ranges_length, List.length_append, h.1, h.2.1]
  rw [hn]
  refine ⟨by unfold pad11; rw [List.length_append, List.length_replicate]; omega, fun i => ?_⟩
  unfold rd pad11
  rw [List.getD_eq_getElem?_getD, List.getElem?_append]
  split
  · rename_i hi
    have h2 := h.2.2 i.toNat (by rw [hrl]; exact hi)
    have h3 := hv.ranges (i.toNat : Nat) (by omega) (by rw [hrl]; omega)
    unfold rd at h2
    rw [List.getD_eq_getElem?_getD, Int.toNat_natCast] at h2
    omega
  · rw [List.getElem?_replicate]
    split <;> simp
def SL.playErr (l : SL) (place ta tw : List Int) : Int := if l.fault ≠ 0 then l.fault else if l.isListed ta tw then (if l.isPlace place then 0 else 2) else 2
def SL.playRows (l : SL) (place ns : List Int) (k : Nat) : List (List Int) := (List.range k).map fun (i : Nat) => l.left ns (i : Int) (rd place (i : Int))
def SL.playOf (l : SL) (place ta tw : List Int) : List (List Int) := if l.playErr place ta tw = 0 then l.playRows place (l.listed ta tw) place.length else []
abbrev kL : Kd (List Int) := Kd.slice 3 (Kd.int .i64)
theorem playRows_length (l : SL) (place ns : List Int) (k : Nat) : (l.playRows place ns k).length = k := by simp [SL.playRows]
theorem playRows_succ (l : SL) (place ns : List Int) (k : Nat) : l.playRows place ns (k + 1) = l.playRows place ns k ++ [l.left ns (k : Int) (rd place (k : Int))] := by
  simp [SL.playRows, List.range_succ]
theorem slice_M {wr W : World} {v : Value} {xs : List Int} {b : Nat} (h : Kd.R (Kd.int .i64) 3 W wr.heap.size (fun _ => True) v xs) (hle : b ≤ wr.heap.size) : kL.M W b (fun k => wr.heap.size ≤ k) xs [v] :=
  ⟨v, rfl, Kd.R_lower (Kd.R_mono (Kd.R_bound h) (fun k hk => hk.2.1)) hle⟩
set_option maxRecDepth 100000 in
set_option maxHeartbeats 6400000 in
theorem Play.calls (x : SA) (l : SL) (B : Option Addr) (cB : Nat) (place : List Int) (TA : Option Addr) (ca : Nat) (ta : List Int) (TB : Option Addr) (cb : Nat) (tw : List Int) (w : World) (hr : Rd w x l) (hP : Kd.C (Kd.int .i64) w B place.length place) (hcB : place.length ≤ cB) (hA : Kd.C (Kd.int .i64) w TA ta.length ta) (hB : Kd.C (Kd.int .i64) w TB tw.length tw) :
    Calls Try.prog 46 #[.agg (x.cells l), .slice B place.length cB, .agg #[.slice TA ta.length ca, .slice TB tw.length cb]] w fun e w' => ∃ v, e = .returned (.tuple #[v, .int .i64 (l.playErr place ta tw)]) ∧ Kd.R kL 25 w' w.heap.size (fun _ => True) v (l.playOf place ta tw) ∧ Below w.heap.size w w' := by
  obtain ⟨A1, c1, A2, c2, A3, c3, A4, c4, A5, c5⟩ := x
  have HB := Aside0.mk (Below.refl w.heap.size w)
  have HR := Aside0.mk hr
  have HA := Aside0.mk hA
  have HBB := Aside0.mk hB
  have HPR := Aside0.mk hP
  obtain ⟨er, her⟩ : ∃ er, er = l.fault := ⟨_, rfl⟩
  obtain ⟨ns, hns⟩ : ∃ ns, ns = l.listed ta tw := ⟨_, rfl⟩
  obtain ⟨b, hb⟩ : ∃ b, b = decide (l.isListed ta tw) := ⟨_, rfl⟩
  obtain ⟨bp, hbp⟩ : ∃ bp, bp = decide (l.isPlace place) := ⟨_, rfl⟩
  obtain ⟨dv, hdv⟩ : ∃ dv, dv = l.playOf place ta tw := ⟨_, rfl⟩
  obtain ⟨de, hde⟩ : ∃ de, de = l.playErr place ta tw := ⟨_, rfl⟩
  have HDE := Aside0.mk (show de = if er ≠ 0 then er else if b then (if bp then 0 else 2) else 2 by rw [hde, her, hb, hbp]; unfold SL.playErr; by_cases h1 : l.isListed ta tw <;> by_cases h2 : l.isPlace place <;> simp [h1, h2])
  have HDV := Aside0.mk (show dv = if de = 0 then l.playRows place ns place.length else [] by rw [hdv, hde, hns]; rfl)
  have HER := Aside0.mk her
  have HNS := Aside0.mk hns
  have HLB := Aside0.mk hb
  have HPB := Aside0.mk hbp
  rw [← hdv, ← hde]
  clear hr hA hB hP her hns hb hbp hdv hde
  go_enter Try.func46, Try.ntmps46
  by_cases hz : er = 0
  · have hzb : (l.fault != 0) = false := by rw [← HER.out, hz]; rfl
    have HZ := Aside0.mk hz
    have HF := Aside0.mk (HER.out.symm.trans hz)
    have HDE2 := Aside0.mk (show de = if b then (if bp then 0 else 2) else 2 by rw [HDE.out, if_neg (by rw [hz]; simp)])
    clear hz
    go_upto_region 5 with (first | ((with_reducible refine gate_dst (N := 3) rfl ?_); refine box_event ?hg (N := 3) ?hd (cs := #[.int .i64 l.a0, .slice A1 l.l1.length c1, .slice A2 l.l2.length c2, .slice A3 l.l3.length c3, .slice A4 l.l4.length c4, .slice A5 l.l5.length c5]) (t := 39) ?hr ?_; (case hd => rfl); (case hg => rfl); (case hr => first | (go_simp; done) | (go_simp; rfl)); intro gl hg_ w2 hbx_ hb_; have BKL := Aside0.mk hbx_; have glge : w.heap.size ≤ gl := (by have := below_size HB.out; omega); have glGE := Aside0.mk glge; clear glge; have HBn := Aside0.mk (below_step HB.out hb_); clear HB hg_ hb_ hbx_; have HB := HBn; clear HBn) | ((with_reducible refine gate_dst (N := 5) rfl ?_); refine box_event ?hg (N := 5) ?hd (cs := #[.slice TA ta.length ca, .slice TB tw.length cb]) (t := 82) ?hr ?_; (case hd => rfl); (case hg => rfl); (case hr => first | (go_simp; done) | (go_simp; rfl)); intro gt hg_ w3 hbx_ hb_; have BKT := Aside0.mk hbx_; have gtge : w.heap.size ≤ gt := (by have := below_size HB.out; omega); have gtGE := Aside0.mk gtge; clear gtge; have HBn := Aside0.mk (below_step HB.out hb_); have z_ := Aside0.mk (blk_below BKL.out hb_); clear BKL; have BKL := z_; clear z_; clear HB hg_ hb_ hbx_; have HB := HBn; clear HBn; have f0 : w3.cell? ⟨gl, 0, none⟩ = some (.int .i64 l.a0) := (blk_cell BKL.out 0).trans rfl; have f1 : w3.cell? ⟨gl, 1, none⟩ = some (.slice A1 l.l1.length c1) := (blk_cell BKL.out 1).trans rfl; have f2 : w3.cell? ⟨gl, 2, none⟩ = some (.slice A2 l.l2.length c2) := (blk_cell BKL.out 2).trans rfl; have f3 : w3.cell? ⟨gl, 3, none⟩ = some (.slice A3 l.l3.length c3) := (blk_cell BKL.out 3).trans rfl; have f4 : w3.cell? ⟨gl, 4, none⟩ = some (.slice A4 l.l4.length c4) := (blk_cell BKL.out 4).trans rfl; have f5 : w3.cell? ⟨gl, 5, none⟩ = some (.slice A5 l.l5.length c5) := (blk_cell BKL.out 5).trans rfl) | (go_at_call 56; go_must (refine (CheckLoft.call ⟨A1, c1, A2, c2, A3, c3, A4, c4, A5, c5⟩ l _ (HR.out.below HB.out)).mono ?_; clear f0 f1 f2 f3 f4 f5; rintro e wE ⟨rfl, hbe⟩; replace BKL := Aside0.mk (blk_below BKL.out hbe); replace BKT := Aside0.mk (blk_below BKT.out hbe); replace HB := Aside0.mk (below_step HB.out hbe); clear hbe; have f0 : wE.cell? ⟨gl, 0, none⟩ = some (.int .i64 l.a0) := (blk_cell BKL.out 0).trans rfl; have f1 : wE.cell? ⟨gl, 1, none⟩ = some (.slice A1 l.l1.length c1) := (blk_cell BKL.out 1).trans rfl; have f2 : wE.cell? ⟨gl, 2, none⟩ = some (.slice A2 l.l2.length c2) := (blk_cell BKL.out 2).trans rfl; have f3 : wE.cell? ⟨gl, 3, none⟩ = some (.slice A3 l.l3.length c3) := (blk_cell BKL.out 3).trans rfl; have f4 : wE.cell? ⟨gl, 4, none⟩ = some (.slice A4 l.l4.length c4) := (blk_cell BKL.out 4).trans rfl; have f5 : wE.cell? ⟨gl, 5, none⟩ = some (.slice A5 l.l5.length c5) := (blk_cell BKL.out 5).trans rfl; have t0 : wE.cell? ⟨gt, 0, none⟩ = some (.slice TA ta.length ca) := (blk_cell BKT.out 0).trans rfl; have t1 : wE.cell? ⟨gt, 1, none⟩ = some (.slice TB tw.length cb) := (blk_cell BKT.out 1).trans rfl)) | (go_at_call 93; go_must (refine (listed_calls ⟨A1, c1, A2, c2, A3, c3, A4, c4, A5, c5⟩ l TA ca ta TB cb tw _ (HR.out.below HB.out) HF.out (Kd.C_below HA.out HB.out) (Kd.C_below HBB.out HB.out)).mono ?_; rw [← HNS.out, ← HLB.out]; clear f0 f1 f2 f3 f4 f5 t0 t1; rintro e wL ⟨rfl, hbe⟩; replace BKL := Aside0.mk (blk_below BKL.out hbe); replace BKT := Aside0.mk (blk_below BKT.out hbe); replace HB := Aside0.mk (below_step HB.out hbe); clear hbe)))
    obtain ⟨g9, hg_⟩ : ∃ g_, g_ = wL.heap.size := ⟨_, rfl⟩
    obtain ⟨w9, hw_⟩ : ∃ w_, w_ = World.alloc wL (Obj.cells #[.int .i64 (rd ns 0), .int .i64 (rd ns 1), .int .i64 (rd ns 2), .int .i64 (rd ns 3), .int .i64 (rd ns 4), .int .i64 (rd ns 5), .int .i64 (rd ns 6), .int .i64 (rd ns 7), .int .i64 (rd ns 8), .int .i64 (rd ns 9), .int .i64 (rd ns 10)] 147) := ⟨_, rfl⟩
    have hb_ : Below wL.heap.size wL w9 := by rw [hw_]; exact below_alloc (Below.refl _ _) _
    have BK9 : Aside0 (w9.heap[g9]? = some (Obj.cells #[.int .i64 (rd ns 0), .int .i64 (rd ns 1), .int .i64 (rd ns 2), .int .i64 (rd ns 3), .int .i64 (rd ns 4), .int .i64 (rd ns 5), .int .i64 (rd ns 6), .int .i64 (rd ns 7), .int .i64 (rd ns 8), .int .i64 (rd ns 9), .int .i64 (rd ns 10)] 147)) := ⟨by rw [hw_, hg_]; exact blk_new _ _⟩
    have g9GE : Aside0 (w.heap.size ≤ g9) := ⟨by have := below_size HB.out; rw [hg_]; exact this⟩
    replace BKL := Aside0.mk (blk_below BKL.out hb_)
    replace BKT := Aside0.mk (blk_below BKT.out hb_)
    replace HB := Aside0.mk (below_step HB.out hb_)
    rw [← hw_, ← hg_]
    clear hw_ hg_ hb_
    cases b with
    | false =>
      have HE2 := Aside0.mk (show de = 2 by rw [HDE2.out]; rfl)
      have HV2 := Aside0.mk (show dv = [] by rw [HDV.out, HE2.out]; rfl)
      go_wp2
      go_ret2
      exact ⟨_, by rw [HE2.out]; rfl, by rw [HV2.out]; exact Kd.R_nil _ _ _ _ _, HB.out⟩
    | true =>
      have f0 : w9.cell? ⟨gl, 0, none⟩ = some (.int .i64 l.a0) := (blk_cell BKL.out 0).trans rfl
      have f1 : w9.cell? ⟨gl, 1, none⟩ = some (.slice A1 l.l1.length c1) := (blk_cell BKL.out 1).trans rfl
      have f2 : w9.cell? ⟨gl, 2, none⟩ = some (.slice A2 l.l2.length c2) := (blk_cell BKL.out 2).trans rfl
      have f3 : w9.cell? ⟨gl, 3, none⟩ = some (.slice A3 l.l3.length c3) := (blk_cell BKL.out 3).trans rfl
      have f4 : w9.cell? ⟨gl, 4, none⟩ = some (.slice A4 l.l4.length c4) := (blk_cell BKL.out 4).trans rfl
      have f5 : w9.cell? ⟨gl, 5, none⟩ = some (.slice A5 l.l5.length c5) := (blk_cell BKL.out 5).trans rfl
      have HDE3 := Aside0.mk (show de = if bp then 0 else 2 by rw [HDE2.out]; rfl)
      cases bp with
      | false =>
        have HE2 := Aside0.mk (show de = 2 by rw [HDE3.out]; rfl)
        have HV2 := Aside0.mk (show dv = [] by rw [HDV.out, HE2.out]; rfl)
        go_wp2_with (first | (go_at_call 74; go_must (refine (L_isPlace.calls ⟨A1, c1, A2, c2, A3, c3, A4, c4, A5, c5⟩ l B cB place _ (HR.out.below HB.out) (valid_of HF.out).shelf3 (valid_of HF.out).cake5 (Kd.C_below HPR.out HB.out)).mono ?_; rw [← HPB.out]; clear f0 f1 f2 f3 f4 f5; rintro e wP ⟨rfl, hbe⟩; replace BKL := Aside0.mk (blk_below BKL.out hbe); replace BK9 := Aside0.mk (blk_below BK9.out hbe); replace HB := Aside0.mk (below_step HB.out hbe); clear hbe)))
        go_ret2
        exact ⟨_, by rw [HE2.out]; rfl, by rw [HV2.out]; exact Kd.R_nil _ _ _ _ _, HB.out⟩
      | true =>
        have HE2 := Aside0.mk (show de = 0 by rw [HDE3.out]; rfl)
        have HV2 := Aside0.mk (show dv = l.playRows place ns place.length by rw [HDV.out, if_pos HE2.out])
        have HPL := Aside0.mk (of_decide_eq_true HPB.out.symm : l.isPlace place)
        have HIL := Aside0.mk (of_decide_eq_true HLB.out.symm : l.isListed ta tw)
        have HNUM := Aside0.mk (show Num ns by rw [HNS.out]; exact num_listed (valid_of HF.out) HIL.out)
        have pl5 : place.length ≤ 5 := by rw [HPL.out.1]; exact (valid_of HF.out).cake5
        go_wp2_with (first | (go_at_call 74; go_must (refine (L_isPlace.calls ⟨A1, c1, A2, c2, A3, c3, A4, c4, A5, c5⟩ l B cB place _ (HR.out.below HB.out) (valid_of HF.out).shelf3 (valid_of HF.out).cake5 (Kd.C_below HPR.out HB.out)).mono ?_; rw [← HPB.out]; clear f0 f1 f2 f3 f4 f5; rintro e wP ⟨rfl, hbe⟩; replace BKL := Aside0.mk (blk_below BKL.out hbe); replace BK9 := Aside0.mk (blk_below BK9.out hbe); replace HB := Aside0.mk (below_step HB.out hbe); clear hbe)))
        go_loopw [11, 35] (fun v11 v35 wr => ∃ i : Nat, v35 = .int .i64 (i : Int) ∧ i ≤ place.length ∧ Aside0 (Kd.R kL 25 wr w.heap.size (fun _ => True) v11 (l.playRows place ns i)) ∧ Aside0 (wr.heap[gl]? = some (.cells #[.int .i64 l.a0, .slice A1 l.l1.length c1, .slice A2 l.l2.length c2, .slice A3 l.l3.length c3, .slice A4 l.l4.length c4, .slice A5 l.l5.length c5] 39 (0, 0))) ∧ Aside0 (wr.heap[g9]? = some (.cells (lit11 ns) 147 (0, 0))) ∧ Aside0 (Below w.heap.size w wr)) (fun _ v35 _ => (place.length - intOf v35).toNat)
        case atStart => exact ⟨0, rfl, Nat.zero_le _, ⟨Kd.R_nil _ _ _ _ _⟩, BKL, BK9, HB⟩
        case round =>
          clear BKL BKT BK9 HB
          obtain ⟨i, rfl, hi, HO, BKL, BK9, HB⟩ := hrel
          by_cases hlt : i < place.length
          · obtain ⟨adp, ep, fp⟩ := rowB (Kd.C_below HPR.out HB.out) (i : Int) (by omega) (by omega)
            subst ep
            rw [Int.toNat_natCast] at fp
            have hlti : (i : Int) < (place.length : Int) := by omega
            have hwi : IntKind.i64.wrap ((i : Int) + 1) = (i : Int) + 1 := IntWalk.i64_in _ (by omega)
            have HSP := Aside0.mk (place_at HPL.out (i := (i : Int)) (by omega) (by omega))
            have f0 : wr.cell? ⟨gl, 0, none⟩ = some (.int .i64 l.a0) := (blk_cell BKL.out 0).trans rfl
            have f1 : wr.cell? ⟨gl, 1, none⟩ = some (.slice A1 l.l1.length c1) := (blk_cell BKL.out 1).trans rfl
            have f2 : wr.cell? ⟨gl, 2, none⟩ = some (.slice A2 l.l2.length c2) := (blk_cell BKL.out 2).trans rfl
            have f3 : wr.cell? ⟨gl, 3, none⟩ = some (.slice A3 l.l3.length c3) := (blk_cell BKL.out 3).trans rfl
            have f4 : wr.cell? ⟨gl, 4, none⟩ = some (.slice A4 l.l4.length c4) := (blk_cell BKL.out 4).trans rfl
            have f5 : wr.cell? ⟨gl, 5, none⟩ = some (.slice A5 l.l5.length c5) := (blk_cell BKL.out 5).trans rfl
            go_wp2_with (first | ((with_reducible refine wpList_load_row (o := ⟨some 42, _, _, _, _, _⟩) rfl 147 (.tmp 9) rfl g9 ?_ 147 (lit11 ns) (0, 0) (.array 11 3) ?_ ?_ ?_ ?_ ?_); exact rfl; exact BK9.out; exact under147; exact rfl; kernel_rfl) | (go_at_call 94; go_must (refine (L_left.lit ⟨A1, c1, A2, c2, A3, c3, A4, c4, A5, c5⟩ l ns (i : Int) (rd place (i : Int)) wr (HR.out.below HB.out) (leftOk (valid_of HF.out) HNUM.out HSP.out.k0 HSP.out.k1 HSP.out.s0 HSP.out.s1)).mono ?_; clear f0 f1 f2 f3 f4 f5 fp; rintro e wL2 ⟨v0, rfl, ho, hbe⟩; obtain ⟨A0, c0, rfl⟩ := Kd.R_slice ho; have hob : ∀ k, u11.ownBlock = some k → k < wr.heap.size := (fun k hk => ((Kd.R_bound HO.out).1 k hk).2.2.1); have HOB := Aside0.mk hob; have HRW := Aside0.mk ho; have HBE := Aside0.mk hbe.size; have hws := Aside0.mk HB.out.size; replace HO := Aside0.mk (Kd.R_below HO.out hbe); replace BKL := Aside0.mk (blk_below BKL.out hbe); replace BK9 := Aside0.mk (blk_below BK9.out hbe); replace HB := Aside0.mk (below_step HB.out hbe); clear hbe ho hob)) | ((with_reducible refine gate_builtin (b := .append) (xs := #[.tmp 40, .tmp 47]) rfl ?_); at_builtin; go_must (refine Kd.R_append kL (w0 := w) w.heap.size rfl (.tmp 40) (.tmp 47) 79 25 (.slice none 0 0) 24 rfl Try.underlying79 info25 rfl (by decide) (by omega) u11 (l.playRows place ns i) (l.left ns (i : Int) (rd place (i : Int))) [.slice A0 (l.left ns (i : Int) (rd place (i : Int))).length c0] (fun _ => True) (fun k => wr.heap.size ≤ k) rfl ?aX (slice_M HRW.out hws.out) (fun k hk => ⟨trivial, fun e_ => by have := HOB.out k e_.symm; omega⟩) (fun _ _ => trivial) HO.out HB.out HB.out.size (by rw [playRows_length]; omega) ?_; (case aX => rfl); intro v17 w12 ho hb hg hat; have hnb : ∀ k, u11.ownBlock = some k → ∃ cells, wL2.heap[k]? = some (.cells cells 25 (0, 0)) := Kd.R_typed HO.out; replace BKL := Aside0.mk (blk_grown BKL.out hg (Kd.R_ne HO.out BKL.out (by decide))); replace BK9 := Aside0.mk (blk_grown BK9.out hg (Kd.R_ne HO.out BK9.out (by decide))); have HO2 := Aside0.mk (show Kd.R kL 25 w12 w.heap.size (fun _ => True) v17 (l.playRows place ns (i + 1)) by rw [playRows_succ]; exact ho); replace HB := Aside0.mk hb; clear ho hb hg hat HO)))
            go_roundw
            case measure => simp [intOf]; omega
            case rel => exact ⟨i + 1, by simp, by omega, HO2, BKL, BK9, HB⟩
          · have hie : i = place.length := by omega
            subst hie
            have hlti : (place.length : Int) ≤ (place.length : Int) := Int.le_refl _
            go_wp2
            go_ret2
            exact ⟨_, by rw [HE2.out]; rfl, by rw [HV2.out]; exact HO.out, HB.out⟩
  · have hzb : (l.fault != 0) = true := by rw [← HER.out]; simpa using hz
    have HE2 := Aside0.mk (show de = er by rw [HDE.out, if_pos hz])
    have HV2 := Aside0.mk (show dv = [] by rw [HDV.out, HE2.out, if_neg hz])
    clear hz
    go_wp2_with (first | ((with_reducible refine gate_dst (N := 3) rfl ?_); refine box_event ?hg (N := 3) ?hd (cs := #[.int .i64 l.a0, .slice A1 l.l1.length c1, .slice A2 l.l2.length c2, .slice A3 l.l3.length c3, .slice A4 l.l4.length c4, .slice A5 l.l5.length c5]) (t := 39) ?hr ?_; (case hd => rfl); (case hg => rfl); (case hr => first | (go_simp; done) | (go_simp; rfl)); intro gl hg_ w2 hbx_ hb_; have BKL := Aside0.mk hbx_; have glge : w.heap.size ≤ gl := (by have := below_size HB.out; omega); have glGE := Aside0.mk glge; clear glge; have HBn := Aside0.mk (below_step HB.out hb_); clear HB hg_ hb_ hbx_; have HB := HBn; clear HBn) | ((with_reducible refine gate_dst (N := 5) rfl ?_); refine box_event ?hg (N := 5) ?hd (cs := #[.slice TA ta.length ca, .slice TB tw.length cb]) (t := 82) ?hr ?_; (case hd => rfl); (case hg => rfl); (case hr => first | (go_simp; done) | (go_simp; rfl)); intro gt hg_ w3 hbx_ hb_; have BKT := Aside0.mk hbx_; have gtge : w.heap.size ≤ gt := (by have := below_size HB.out; omega); have gtGE := Aside0.mk gtge; clear gtge; have HBn := Aside0.mk (below_step HB.out hb_); have z_ := Aside0.mk (blk_below BKL.out hb_); clear BKL; have BKL := z_; clear z_; clear HB hg_ hb_ hbx_; have HB := HBn; clear HBn; have f0 : w3.cell? ⟨gl, 0, none⟩ = some (.int .i64 l.a0) := (blk_cell BKL.out 0).trans rfl; have f1 : w3.cell? ⟨gl, 1, none⟩ = some (.slice A1 l.l1.length c1) := (blk_cell BKL.out 1).trans rfl; have f2 : w3.cell? ⟨gl, 2, none⟩ = some (.slice A2 l.l2.length c2) := (blk_cell BKL.out 2).trans rfl; have f3 : w3.cell? ⟨gl, 3, none⟩ = some (.slice A3 l.l3.length c3) := (blk_cell BKL.out 3).trans rfl; have f4 : w3.cell? ⟨gl, 4, none⟩ = some (.slice A4 l.l4.length c4) := (blk_cell BKL.out 4).trans rfl; have f5 : w3.cell? ⟨gl, 5, none⟩ = some (.slice A5 l.l5.length c5) := (blk_cell BKL.out 5).trans rfl) | (go_at_call 56; go_must (refine (CheckLoft.call ⟨A1, c1, A2, c2, A3, c3, A4, c4, A5, c5⟩ l _ (HR.out.below HB.out)).mono ?_; clear f0 f1 f2 f3 f4 f5; rintro e wE ⟨rfl, hbe⟩; replace BKL := Aside0.mk (blk_below BKL.out hbe); replace BKT := Aside0.mk (blk_below BKT.out hbe); replace HB := Aside0.mk (below_step HB.out hbe); clear hbe; have f0 : wE.cell? ⟨gl, 0, none⟩ = some (.int .i64 l.a0) := (blk_cell BKL.out 0).trans rfl; have f1 : wE.cell? ⟨gl, 1, none⟩ = some (.slice A1 l.l1.length c1) := (blk_cell BKL.out 1).trans rfl; have f2 : wE.cell? ⟨gl, 2, none⟩ = some (.slice A2 l.l2.length c2) := (blk_cell BKL.out 2).trans rfl; have f3 : wE.cell? ⟨gl, 3, none⟩ = some (.slice A3 l.l3.length c3) := (blk_cell BKL.out 3).trans rfl; have f4 : wE.cell? ⟨gl, 4, none⟩ = some (.slice A4 l.l4.length c4) := (blk_cell BKL.out 4).trans rfl; have f5 : wE.cell? ⟨gl, 5, none⟩ = some (.slice A5 l.l5.length c5) := (blk_cell BKL.out 5).trans rfl; have t0 : wE.cell? ⟨gt, 0, none⟩ = some (.slice TA ta.length ca) := (blk_cell BKT.out 0).trans rfl; have t1 : wE.cell? ⟨gt, 1, none⟩ = some (.slice TB tw.length cb) := (blk_cell BKT.out 1).trans rfl)))
    go_ret2
    exact ⟨_, by rw [HE2.out, HER.out]; rfl, by rw [HV2.out]; exact Kd.R_nil _ _ _ _ _, HB.out⟩
end Go.Proofs.Ytjifalohjlihaaa.Q
end
section
namespace Go.Proofs.Ytjifalohjlihaaa.Q
set_option linter.unusedVariables false
open Go.BigFrame Go.RowKit Go.Shelf Go.Proofs.YtjifalohjlihaaaW.PrintWords Go.Proofs.YtjifalohjlihaaaW.PrintLast Go.Proofs.YtjifalohjlihaaaW.PrintMore
def SL.provesTruth (l : SL) (ta tw : List Int) : Bool := if l.fault ≠ 0 then false else if l.isListed ta tw then l.right (l.listed ta tw) [] else false
set_option maxRecDepth 100000 in
set_option maxHeartbeats 6400000 in
theorem ProveTruth.calls (x : SA) (l : SL) (TA : Option Addr) (ca : Nat) (ta : List Int) (TB : Option Addr) (cb : Nat) (tw : List Int) (w : World) (hr : Rd w x l) (hA : Kd.C (Kd.int .i64) w TA ta.length ta) (hB : Kd.C (Kd.int .i64) w TB tw.length tw) :
    Calls Try.prog 55 #[.agg (x.cells l), .agg #[.slice TA ta.length ca, .slice TB tw.length cb]] w fun e w' => e = .returned (.bool (l.provesTruth ta tw)) ∧ Below w.heap.size w w' := by
  obtain ⟨A1, c1, A2, c2, A3, c3, A4, c4, A5, c5⟩ := x
  have HB := Aside0.mk (Below.refl w.heap.size w)
  have HR := Aside0.mk hr
  have HA := Aside0.mk hA
  have HBB := Aside0.mk hB
  obtain ⟨er, her⟩ : ∃ er, er = l.fault := ⟨_, rfl⟩
  obtain ⟨ns, hns⟩ : ∃ ns, ns = l.listed ta tw := ⟨_, rfl⟩
  obtain ⟨b, hb⟩ : ∃ b, b = decide (l.isListed ta tw) := ⟨_, rfl⟩
  obtain ⟨rt, hrt⟩ : ∃ rt, rt = l.right ns [] := ⟨_, rfl⟩
  obtain ⟨dv, hdv⟩ : ∃ dv, dv = l.provesTruth ta tw := ⟨_, rfl⟩
  have HDV := Aside0.mk (show dv = if er ≠ 0 then false else if b then rt else false by rw [hdv, her, hb, hrt, hns]; unfold SL.provesTruth; by_cases h1 : l.isListed ta tw <;> simp [h1])
  have HER := Aside0.mk her
  have HNS := Aside0.mk hns
  have HLB := Aside0.mk hb
  have HRT := Aside0.mk hrt
  rw [← hdv]
  clear hr hA hB her hns hb hdv hrt
  go_enter Try.func55, Try.ntmps55
  by_cases hz : er = 0
  · have hzb : (l.fault != 0) = false := by rw [← HER.out, hz]; rfl
    have HF := Aside0.mk (HER.out.symm.trans hz)
    have HDV2 := Aside0.mk (show dv = if b then rt else false by rw [HDV.out, if_neg (by rw [hz]; simp)])
    clear hz
    go_upto_region 4 with (first | ((with_reducible refine gate_dst (N := 2) rfl ?_); refine box_event ?hg (N := 2) ?hd (cs := #[.int .i64 l.a0, .slice A1 l.l1.length c1, .slice A2 l.l2.length c2, .slice A3 l.l3.length c3, .slice A4 l.l4.length c4, .slice A5 l.l5.length c5]) (t := 39) ?hr ?_; (case hd => rfl); (case hg => rfl); (case hr => first | (go_simp; done) | (go_simp; rfl)); intro gl hg_ w2 hbx_ hb_; have BKL := Aside0.mk hbx_; have glge : w.heap.size ≤ gl := (by have := below_size HB.out; omega); have glGE := Aside0.mk glge; clear glge; have HBn := Aside0.mk (below_step HB.out hb_); clear HB hg_ hb_ hbx_; have HB := HBn; clear HBn) | ((with_reducible refine gate_dst (N := 3) rfl ?_); refine box_event ?hg (N := 3) ?hd (cs := #[.slice TA ta.length ca, .slice TB tw.length cb]) (t := 82) ?hr ?_; (case hd => rfl); (case hg => rfl); (case hr => first | (go_simp; done) | (go_simp; rfl)); intro gt hg_ w3 hbx_ hb_; have BKT := Aside0.mk hbx_; have gtge : w.heap.size ≤ gt := (by have := below_size HB.out; omega); have gtGE := Aside0.mk gtge; clear gtge; have HBn := Aside0.mk (below_step HB.out hb_); have z_ := Aside0.mk (blk_below BKL.out hb_); clear BKL; have BKL := z_; clear z_; clear HB hg_ hb_ hbx_; have HB := HBn; clear HBn; have f0 : w3.cell? ⟨gl, 0, none⟩ = some (.int .i64 l.a0) := (blk_cell BKL.out 0).trans rfl; have f1 : w3.cell? ⟨gl, 1, none⟩ = some (.slice A1 l.l1.length c1) := (blk_cell BKL.out 1).trans rfl; have f2 : w3.cell? ⟨gl, 2, none⟩ = some (.slice A2 l.l2.length c2) := (blk_cell BKL.out 2).trans rfl; have f3 : w3.cell? ⟨gl, 3, none⟩ = some (.slice A3 l.l3.length c3) := (blk_cell BKL.out 3).trans rfl; have f4 : w3.cell? ⟨gl, 4, none⟩ = some (.slice A4 l.l4.length c4) := (blk_cell BKL.out 4).trans rfl; have f5 : w3.cell? ⟨gl, 5, none⟩ = some (.slice A5 l.l5.length c5) := (blk_cell BKL.out 5).trans rfl) | (go_at_call 56; go_must (refine (CheckLoft.call ⟨A1, c1, A2, c2, A3, c3, A4, c4, A5, c5⟩ l _ (HR.out.below HB.out)).mono ?_; clear f0 f1 f2 f3 f4 f5; rintro e wE ⟨rfl, hbe⟩; replace BKL := Aside0.mk (blk_below BKL.out hbe); replace BKT := Aside0.mk (blk_below BKT.out hbe); replace HB := Aside0.mk (below_step HB.out hbe); clear hbe; have f0 : wE.cell? ⟨gl, 0, none⟩ = some (.int .i64 l.a0) := (blk_cell BKL.out 0).trans rfl; have f1 : wE.cell? ⟨gl, 1, none⟩ = some (.slice A1 l.l1.length c1) := (blk_cell BKL.out 1).trans rfl; have f2 : wE.cell? ⟨gl, 2, none⟩ = some (.slice A2 l.l2.length c2) := (blk_cell BKL.out 2).trans rfl; have f3 : wE.cell? ⟨gl, 3, none⟩ = some (.slice A3 l.l3.length c3) := (blk_cell BKL.out 3).trans rfl; have f4 : wE.cell? ⟨gl, 4, none⟩ = some (.slice A4 l.l4.length c4) := (blk_cell BKL.out 4).trans rfl; have f5 : wE.cell? ⟨gl, 5, none⟩ = some (.slice A5 l.l5.length c5) := (blk_cell BKL.out 5).trans rfl; have t0 : wE.cell? ⟨gt, 0, none⟩ = some (.slice TA ta.length ca) := (blk_cell BKT.out 0).trans rfl; have t1 : wE.cell? ⟨gt, 1, none⟩ = some (.slice TB tw.length cb) := (blk_cell BKT.out 1).trans rfl)) | (go_at_call 93; go_must (refine (listed_calls ⟨A1, c1, A2, c2, A3, c3, A4, c4, A5, c5⟩ l TA ca ta TB cb tw _ (HR.out.below HB.out) HF.out (Kd.C_below HA.out HB.out) (Kd.C_below HBB.out HB.out)).mono ?_; rw [← HNS.out, ← HLB.out]; clear f0 f1 f2 f3 f4 f5 t0 t1; rintro e wL ⟨rfl, hbe⟩; replace BKL := Aside0.mk (blk_below BKL.out hbe); replace BKT := Aside0.mk (blk_below BKT.out hbe); replace HB := Aside0.mk (below_step HB.out hbe); clear hbe)))
    obtain ⟨g9, hg_⟩ : ∃ g_, g_ = wL.heap.size := ⟨_, rfl⟩
    obtain ⟨w9, hw_⟩ : ∃ w_, w_ = World.alloc wL (Obj.cells #[.int .i64 (rd ns 0), .int .i64 (rd ns 1), .int .i64 (rd ns 2), .int .i64 (rd ns 3), .int .i64 (rd ns 4), .int .i64 (rd ns 5), .int .i64 (rd ns 6), .int .i64 (rd ns 7), .int .i64 (rd ns 8), .int .i64 (rd ns 9), .int .i64 (rd ns 10)] 147) := ⟨_, rfl⟩
    have hb_ : Below wL.heap.size wL w9 := by rw [hw_]; exact below_alloc (Below.refl _ _) _
    have BK9 : Aside0 (w9.heap[g9]? = some (Obj.cells #[.int .i64 (rd ns 0), .int .i64 (rd ns 1), .int .i64 (rd ns 2), .int .i64 (rd ns 3), .int .i64 (rd ns 4), .int .i64 (rd ns 5), .int .i64 (rd ns 6), .int .i64 (rd ns 7), .int .i64 (rd ns 8), .int .i64 (rd ns 9), .int .i64 (rd ns 10)] 147)) := ⟨by rw [hw_, hg_]; exact blk_new _ _⟩
    have g9GE : Aside0 (w.heap.size ≤ g9) := ⟨by have := below_size HB.out; rw [hg_]; exact this⟩
    replace BKL := Aside0.mk (blk_below BKL.out hb_)
    replace BKT := Aside0.mk (blk_below BKT.out hb_)
    replace HB := Aside0.mk (below_step HB.out hb_)
    rw [← hw_, ← hg_]
    clear hw_ hg_ hb_
    cases b with
    | false =>
      have HV2 := Aside0.mk (show dv = false by rw [HDV2.out]; rfl)
      go_wp2
      go_ret
      exact ⟨by rw [HV2.out]; rfl, HB.out⟩
    | true =>
      have f0 : w9.cell? ⟨gl, 0, none⟩ = some (.int .i64 l.a0) := (blk_cell BKL.out 0).trans rfl
      have f1 : w9.cell? ⟨gl, 1, none⟩ = some (.slice A1 l.l1.length c1) := (blk_cell BKL.out 1).trans rfl
      have f2 : w9.cell? ⟨gl, 2, none⟩ = some (.slice A2 l.l2.length c2) := (blk_cell BKL.out 2).trans rfl
      have f3 : w9.cell? ⟨gl, 3, none⟩ = some (.slice A3 l.l3.length c3) := (blk_cell BKL.out 3).trans rfl
      have f4 : w9.cell? ⟨gl, 4, none⟩ = some (.slice A4 l.l4.length c4) := (blk_cell BKL.out 4).trans rfl
      have f5 : w9.cell? ⟨gl, 5, none⟩ = some (.slice A5 l.l5.length c5) := (blk_cell BKL.out 5).trans rfl
      have n_0 : w9.cell? ⟨g9, 0, none⟩ = some (.int .i64 (rd ns 0)) := (blk_cell BK9.out 0).trans rfl
      have n_1 : w9.cell? ⟨g9, 1, none⟩ = some (.int .i64 (rd ns 1)) := (blk_cell BK9.out 1).trans rfl
      have n_2 : w9.cell? ⟨g9, 2, none⟩ = some (.int .i64 (rd ns 2)) := (blk_cell BK9.out 2).trans rfl
      have n_3 : w9.cell? ⟨g9, 3, none⟩ = some (.int .i64 (rd ns 3)) := (blk_cell BK9.out 3).trans rfl
      have n_4 : w9.cell? ⟨g9, 4, none⟩ = some (.int .i64 (rd ns 4)) := (blk_cell BK9.out 4).trans rfl
      have n_5 : w9.cell? ⟨g9, 5, none⟩ = some (.int .i64 (rd ns 5)) := (blk_cell BK9.out 5).trans rfl
      have n_6 : w9.cell? ⟨g9, 6, none⟩ = some (.int .i64 (rd ns 6)) := (blk_cell BK9.out 6).trans rfl
      have n_7 : w9.cell? ⟨g9, 7, none⟩ = some (.int .i64 (rd ns 7)) := (blk_cell BK9.out 7).trans rfl
      have n_8 : w9.cell? ⟨g9, 8, none⟩ = some (.int .i64 (rd ns 8)) := (blk_cell BK9.out 8).trans rfl
      have n_9 : w9.cell? ⟨g9, 9, none⟩ = some (.int .i64 (rd ns 9)) := (blk_cell BK9.out 9).trans rfl
      have n_10 : w9.cell? ⟨g9, 10, none⟩ = some (.int .i64 (rd ns 10)) := (blk_cell BK9.out 10).trans rfl
      have HV2 := Aside0.mk (show dv = rt by rw [HDV2.out]; rfl)
      have HIL := Aside0.mk (of_decide_eq_true HLB.out.symm : l.isListed ta tw)
      have HNUM := Aside0.mk (show Num ns by rw [HNS.out]; exact num_listed (valid_of HF.out) HIL.out)
      go_wp2_with (first | (go_at_call 96; go_must (refine (L_right.calls ⟨A1, c1, A2, c2, A3, c3, A4, c4, A5, c5⟩ l ns none 0 [] _ (HR.out.below HB.out) (valid_of HF.out) HNUM.out (Kd.C_nil _ _) (Nat.le_refl _) (by simp)).mono ?_; rw [← HRT.out]; clear f0 f1 f2 f3 f4 f5 n_0 n_1 n_2 n_3 n_4 n_5 n_6 n_7 n_8 n_9 n_10; rintro e wP ⟨rfl, hbe⟩; replace HB := Aside0.mk (below_step HB.out hbe); clear hbe)))
      go_ret
      exact ⟨by rw [HV2.out]; rfl, HB.out⟩
  · have hzb : (l.fault != 0) = true := by rw [← HER.out]; simpa using hz
    have HV2 := Aside0.mk (show dv = false by rw [HDV.out, if_pos hz])
    clear hz
    go_wp2_with (first | ((with_reducible refine gate_dst (N := 2) rfl ?_); refine box_event ?hg (N := 2) ?hd (cs := #[.int .i64 l.a0, .slice A1 l.l1.length c1, .slice A2 l.l2.length c2, .slice A3 l.l3.length c3, .slice A4 l.l4.length c4, .slice A5 l.l5.length c5]) (t := 39) ?hr ?_; (case hd => rfl); (case hg => rfl); (case hr => first | (go_simp; done) | (go_simp; rfl)); intro gl hg_ w2 hbx_ hb_; have BKL := Aside0.mk hbx_; have glge : w.heap.size ≤ gl := (by have := below_size HB.out; omega); have glGE := Aside0.mk glge; clear glge; have HBn := Aside0.mk (below_step HB.out hb_); clear HB hg_ hb_ hbx_; have HB := HBn; clear HBn) | ((with_reducible refine gate_dst (N := 3) rfl ?_); refine box_event ?hg (N := 3) ?hd (cs := #[.slice TA ta.length ca, .slice TB tw.length cb]) (t := 82) ?hr ?_; (case hd => rfl); (case hg => rfl); (case hr => first | (go_simp; done) | (go_simp; rfl)); intro gt hg_ w3 hbx_ hb_; have BKT := Aside0.mk hbx_; have gtge : w.heap.size ≤ gt := (by have := below_size HB.out; omega); have gtGE := Aside0.mk gtge; clear gtge; have HBn := Aside0.mk (below_step HB.out hb_); have z_ := Aside0.mk (blk_below BKL.out hb_); clear BKL; have BKL := z_; clear z_; clear HB hg_ hb_ hbx_; have HB := HBn; clear HBn; have f0 : w3.cell? ⟨gl, 0, none⟩ = some (.int .i64 l.a0) := (blk_cell BKL.out 0).trans rfl; have f1 : w3.cell? ⟨gl, 1, none⟩ = some (.slice A1 l.l1.length c1) := (blk_cell BKL.out 1).trans rfl; have f2 : w3.cell? ⟨gl, 2, none⟩ = some (.slice A2 l.l2.length c2) := (blk_cell BKL.out 2).trans rfl; have f3 : w3.cell? ⟨gl, 3, none⟩ = some (.slice A3 l.l3.length c3) := (blk_cell BKL.out 3).trans rfl; have f4 : w3.cell? ⟨gl, 4, none⟩ = some (.slice A4 l.l4.length c4) := (blk_cell BKL.out 4).trans rfl; have f5 : w3.cell? ⟨gl, 5, none⟩ = some (.slice A5 l.l5.length c5) := (blk_cell BKL.out 5).trans rfl) | (go_at_call 56; go_must (refine (CheckLoft.call ⟨A1, c1, A2, c2, A3, c3, A4, c4, A5, c5⟩ l _ (HR.out.below HB.out)).mono ?_; clear f0 f1 f2 f3 f4 f5; rintro e wE ⟨rfl, hbe⟩; replace BKL := Aside0.mk (blk_below BKL.out hbe); replace BKT := Aside0.mk (blk_below BKT.out hbe); replace HB := Aside0.mk (below_step HB.out hbe); clear hbe; have f0 : wE.cell? ⟨gl, 0, none⟩ = some (.int .i64 l.a0) := (blk_cell BKL.out 0).trans rfl; have f1 : wE.cell? ⟨gl, 1, none⟩ = some (.slice A1 l.l1.length c1) := (blk_cell BKL.out 1).trans rfl; have f2 : wE.cell? ⟨gl, 2, none⟩ = some (.slice A2 l.l2.length c2) := (blk_cell BKL.out 2).trans rfl; have f3 : wE.cell? ⟨gl, 3, none⟩ = some (.slice A3 l.l3.length c3) := (blk_cell BKL.out 3).trans rfl; have f4 : wE.cell? ⟨gl, 4, none⟩ = some (.slice A4 l.l4.length c4) := (blk_cell BKL.out 4).trans rfl; have f5 : wE.cell? ⟨gl, 5, none⟩ = some (.slice A5 l.l5.length c5) := (blk_cell BKL.out 5).trans rfl; have t0 : wE.cell? ⟨gt, 0, none⟩ = some (.slice TA ta.length ca) := (blk_cell BKT.out 0).trans rfl; have t1 : wE.cell? ⟨gt, 1, none⟩ = some (.slice TB tw.length cb) := (blk_cell BKT.out 1).trans rfl)))
    go_ret
    exact ⟨by rw [HV2.out]; rfl, HB.out⟩
end Go.Proofs.Ytjifalohjlihaaa.Q
end
section
namespace Go.Proofs.Ytjifalohjlihaaa.Q
set_option linter.unusedVariables false
open Go.BigFrame Go.RowKit Go.Shelf Go.Proofs.YtjifalohjlihaaaW.PrintWords Go.Proofs.YtjifalohjlihaaaW.PrintLast Go.Proofs.YtjifalohjlihaaaW.PrintMore
def needsT (T : List (List Nat × List Nat)) (i : Nat) : List Nat := (T.getD i ([], [])).1
def openOk (T : List (List Nat × List Nat)) (n : Nat) : Bool :=
  (List.range (n + 1)).all (fun i => (needsT T i).all fun j => decide (j < i)) && (List.range n).all fun j => (List.range (n + 1)).any fun k => decide (j < k) && (needsT T k).contains j
def upd (v : Nat → Value) (i : Nat) (x : Value) : Nat → Value := fun k => if k = i then x else v k
theorem upd_same (v : Nat → Value) (i : Nat) (x : Value) : upd v i x i = x := if_pos rfl
theorem upd_other {v : Nat → Value} {i j : Nat} {x : Value} (h : j ≠ i) : upd v i x j = v j := if_neg h
theorem ready_needs {T : List (List Nat × List Nat)} {L : List Bool} {i : Nat} (h : readyAt T L i = true) : L.getD i true = false ∧ ∀ j ∈ needsT T i, L.getD j false = true := by
  unfold readyAt at h
  rw [Bool.and_eq_true] at h
  refine ⟨by simpa using h.1, fun j hj => ?_⟩
  unfold needsT at hj
  rw [List.getD_eq_getElem?_getD] at hj
  cases hT : T[i]? with
  | none => rw [hT] at h; exact absurd h.2 (by simp)
  | some r =>
    rw [hT] at h hj
    exact (List.all_eq_true.1 h.2) j hj
theorem ready_of {T : List (List Nat × List Nat)} {L : List Bool} {i : Nat} (hi : i < T.length) (h1 : L.getD i true = false) (h2 : ∀ j ∈ needsT T i, L.getD j false = true) : readyAt T L i = true := by
  unfold readyAt
  rw [Bool.and_eq_true]
  refine ⟨by simp only [h1]; rfl, ?_⟩
  unfold needsT at h2
  rw [List.getD_eq_getElem?_getD, List.getElem?_eq_getElem hi] at h2
  rw [List.getElem?_eq_getElem hi]
  exact List.all_eq_true.2 h2
theorem ready_nil {T : List (List Nat × List Nat)} {L : List Bool} {n : Nat} (hn : T.length = n) (h : ∀ j, j < n → L.getD j true = true) : readyT T L = [] := by
  unfold readyT
  rw [List.filter_eq_nil_iff]
  intro i hi
  rw [List.mem_range, hn] at hi
  unfold readyAt
  rw [h i hi]
  simp
theorem ready_some {T : List (List Nat × List Nat)} {L : List Bool} {n : Nat} (hT : T.length = n + 1) (hL : L.length = n + 1) (hc : openOk T n = true) (h : L.getD n true = false) : readyT T L ≠ [] := by
  have ex : ∃ i, i ≤ n ∧ L.getD i true = false ∧ ∀ j, j < i → L.getD j true = true := by
    have : ∀ m, m ≤ n → L.getD m true = false → ∃ i, i ≤ n ∧ L.getD i true = false ∧ ∀ j, j < i → L.getD j true = true := by
      intro m
      induction m using Nat.strongRecOn with
      | _ m ih =>
        intro hm h1
        by_cases hh : ∃ j, j < m ∧ L.getD j true = false
        · obtain ⟨j, hj, h2⟩ := hh
          exact ih j hj (by omega) h2
        · exact ⟨m, hm, h1, fun j hj => by
            cases hb : L.getD j true with
            | true => rfl
            | false => exact absurd ⟨j, hj, hb⟩ hh⟩
    exact this n (Nat.le_refl _) h
  obtain ⟨i, hi, h1, h2⟩ := ex
  unfold openOk at hc
  rw [Bool.and_eq_true] at hc
  have h3 := (List.all_eq_true.1 hc.1) i (by rw [List.mem_range]; omega)
  intro he
  have h4 : readyAt T L i = true := ready_of (by omega) h1 (fun j hj => by
    have hji := of_decide_eq_true ((List.all_eq_true.1 h3) j hj)
    have := h2 j hji
    rw [List.getD_eq_getElem?_getD, List.getElem?_eq_getElem (by omega)] at this ⊢
    exact this)
  have h5 : i ∈ readyT T L := by
    unfold readyT
    rw [List.mem_filter, List.mem_range]
    exact ⟨by omega, h4⟩
  rw [he] at h5
  exact absurd h5 (by simp)
theorem all_listed {T : List (List Nat × List Nat)} {L : List Bool} {n : Nat} (hc : openOk T n = true) (hcl : ∀ k, k ≤ n → L.getD k false = true → ∀ j ∈ needsT T k, L.getD j false = true) (hl : ∀ j ∈ needsT T n, L.getD j false = true) :
    ∀ d j, j < n → n - j ≤ d → L.getD j false = true := by
  unfold openOk at hc
  rw [Bool.and_eq_true] at hc
  intro d
  induction d with
  | zero => intro j hj hd; omega
  | succ d ih =>
    intro j hj hd
    have h1 := (List.all_eq_true.1 hc.2) j (by rw [List.mem_range]; exact hj)
    obtain ⟨k, hk, h2⟩ := List.any_eq_true.1 h1
    rw [Bool.and_eq_true, decide_eq_true_eq, List.contains_iff_mem] at h2
    rw [List.mem_range] at hk
    by_cases e : k = n
    · subst e; exact hl j h2.2
    · exact hcl k (by omega) (ih k (by omega) (by omega)) j h2.2
section
variable {P : Program} {ops : Array Oper} {Q : Exit → Act → World → Prop}
theorem wpAny_nil {l : Array Bool} {a : Act} {w : World} (hr : Region.ready .any ops l = []) (h : Q .normal a w) : ∀ fuel, wpAny P .any ops Q fuel l a w
  | 0 => ⟨hr, h⟩
  | fuel + 1 => ⟨fun _ => h, fun i hi => by rw [hr] at hi; exact absurd hi (by simp)⟩
theorem wp_open {id : Nat} {a0 : Act} {w : World} (n : Nat) (T : Bool × List (List Nat × List Nat)) (A : (Nat → Value) → Act) (v0 : Nat → Value) (fact : Nat → Value → World → Prop) (B : World → Prop)
    (hm : P.follows .mixedOrders = true) (hn : ops.size = n + 1) (hT : rtab .any ops = T) (hc : openOk T.2 n = true) (ha : a0 = A v0) (hB0 : B w.drew)
    (hfact : ∀ j, j < n → ∀ x w w', Below w.heap.size w w' → fact j x w → fact j x w')
    (hstep : ∀ i, i < n → ∀ v w, B w → (∀ j ∈ needsT T.2 i, fact j (v j) w) → ∀ K, (∀ x w', fact i x w' → B w' → Below w.heap.size w w' → K (A (upd v i x)) w') → wpOp P ops Q i K (A v) w)
    (hlast : ∀ v w, B w → (∀ j ∈ needsT T.2 n, fact j (v j) w) → ∀ K, (∀ a' w', Q .normal a' w' → K a' w') → wpOp P ops Q n K (A v) w) : (Code.region id ops true).wp P Q a0 w := by
  refine wp_region_any hm ?_
  subst ha
  have hTl : T.2.length = n + 1 := by rw [← hT, rtab_length]; exact hn
  have main : ∀ (fuel : Nat) (l : Array Bool) (v : Nat → Value) (w : World), B w → l.toList.length = n + 1 → (∀ k, k ≤ n → l.toList.getD k false = true → ∀ j ∈ needsT T.2 k, l.toList.getD j false = true) → l.toList.getD n true = false →
      (∀ j, l.toList.getD j false = true → fact j (v j) w) → l.toList.count false ≤ fuel → wpAny P .any ops Q fuel l (A v) w := by
    intro fuel
    induction fuel with
    | zero =>
      intro l v w hB hl hcl hln hf hk
      exfalso
      have : false ∈ l.toList := by
        rw [List.getD_eq_getElem?_getD, List.getElem?_eq_getElem (by omega)] at hln
        have h2 : l.toList[n]'(by omega) = false := hln
        rw [← h2]; exact List.getElem_mem _
      have := List.count_pos_iff.2 this
      omega
    | succ fuel ih =>
      intro l v w hB hl hcl hln hf hk
      have hready : ∀ i, i ∈ Region.ready .any ops l → i ≤ n ∧ readyAt T.2 l.toList i = true := by
        intro i hi
        rw [ready_eq, hT] at hi
        unfold readyT at hi
        rw [List.mem_filter, List.mem_range, hTl] at hi
        exact ⟨by omega, hi.2⟩
      refine ⟨fun he => absurd he ?_, fun i hi => ?_⟩
      · rw [ready_eq, hT]; exact ready_some hTl hl hc hln
      · obtain ⟨hin, hr⟩ := hready i hi
        obtain ⟨h1, h2⟩ := ready_needs hr
        have hil : i < l.toList.length := by omega
        have hi0 : l.toList[i] = false := by rw [List.getD_eq_getElem?_getD, List.getElem?_eq_getElem hil] at h1; exact h1
        by_cases e : i = n
        · subst e
          refine hlast v w hB (fun j hj => hf j (h2 j hj)) _ (fun a' w' hQ => wpAny_nil ?_ hQ fuel)
          rw [ready_eq, hT]
          refine ready_nil hTl (fun j hj => ?_)
          rw [Array.toList_setIfInBounds, List.getD_eq_getElem?_getD]
          by_cases ej : j = i
          · subst ej; rw [List.getElem?_set_self (by omega)]; rfl
          · rw [List.getElem?_set_ne (Ne.symm ej)]
            have := all_listed hc hcl (fun j hj => h2 j hj) (i - j) j (by omega) (Nat.le_refl _)
            rw [List.getD_eq_getElem?_getD, List.getElem?_eq_getElem (by omega)] at this
            rw [List.getElem?_eq_getElem (by omega)]
            exact this
        · refine hstep i (by omega) v w hB (fun j hj => hf j (h2 j hj)) _ (fun x w' hx hB' hb => ?_)
          refine ih (l.setIfInBounds i true) (upd v i x) w' hB' (by rw [Array.toList_setIfInBounds, List.length_set]; exact hl) (fun k hkn hk1 j hj => ?_) ?_ (fun j hj => ?_) ?_
          · rw [Array.toList_setIfInBounds] at hk1 ⊢
            rw [List.getD_eq_getElem?_getD] at hk1 ⊢
            by_cases ej : i = j
            · subst ej; rw [List.getElem?_set_self hil]; rfl
            · rw [List.getElem?_set_ne ej]
              by_cases ek : i = k
              · subst ek
                have := h2 j hj
                rwa [List.getD_eq_getElem?_getD] at this
              · rw [List.getElem?_set_ne ek] at hk1
                have := hcl k hkn (by rw [List.getD_eq_getElem?_getD]; exact hk1) j hj
                rwa [List.getD_eq_getElem?_getD] at this
          · rw [Array.toList_setIfInBounds, List.getD_eq_getElem?_getD, List.getElem?_set_ne e]
            rwa [List.getD_eq_getElem?_getD] at hln
          · by_cases ej : j = i
            · subst ej; rw [upd_same]; exact hx
            · rw [upd_other ej]
              rw [Array.toList_setIfInBounds, List.getD_eq_getElem?_getD, List.getElem?_set_ne (Ne.symm ej)] at hj
              have hjn : j < n := by
                have h5 : j < l.toList.length := by
                  cases hq : l.toList[j]? with
                  | none => rw [hq] at hj; cases hj
                  | some b => exact (List.getElem?_eq_some_iff.1 hq).1
                have h6 : j ≠ n := by
                  rintro rfl
                  rw [List.getD_eq_getElem?_getD, List.getElem?_eq_getElem h5] at hln
                  rw [List.getElem?_eq_getElem h5] at hj
                  exact absurd (hj.symm.trans hln) (by decide)
                omega
              exact hfact j hjn _ w w' hb (hf j (by rw [List.getD_eq_getElem?_getD]; exact hj))
          · rw [Array.toList_setIfInBounds, List.count_set hil, hi0]
            have : 0 < l.toList.count false := List.count_pos_iff.2 (by rw [← hi0]; exact List.getElem_mem _)
            rw [if_pos (by rfl), if_neg (by decide)]
            omega
  rw [hn]
  refine main (n + 1) _ v0 _ hB0 (by simp) (fun k hk h => ?_) ?_ (fun j hj => ?_) ?_
  · exfalso
    simp [List.getD_eq_getElem?_getD, List.getElem?_replicate] at h
    split at h <;> simp at h
  · simp [List.getD_eq_getElem?_getD]
  · exfalso
    simp [List.getD_eq_getElem?_getD, List.getElem?_replicate] at hj
    split at hj <;> simp at hj
  · simp
end
end Go.Proofs.Ytjifalohjlihaaa.Q
end
section
namespace Go.Proofs.Ytjifalohjlihaaa.Q
set_option linter.unusedVariables false
open Go.BigFrame Go.RowKit Go.Shelf Go.Proofs.YtjifalohjlihaaaW.PrintWords Go.Proofs.YtjifalohjlihaaaW.PrintLast Go.Proofs.YtjifalohjlihaaaW.PrintMore
theorem flat_at {α : Type} {enc : α → List Value} {s : Nat} (hs : ∀ x, (enc x).length = s) : ∀ (xs : List α) (j : Nat) (p : α) (i : Nat) (u : Value), xs[j]? = some p → (enc p)[i]? = some u → (xs.flatMap enc)[j * s + i]? = some u := by
  intro xs
  induction xs with
  | nil => intro j p i u h; simp at h
  | cons x t ih =>
    intro j p i u h hu
    rw [List.flatMap_cons]
    have hi := (List.getElem?_eq_some_iff.1 hu).1
    rw [hs] at hi
    cases j with
    | zero =>
      rw [List.getElem?_cons_zero] at h
      obtain rfl := Option.some.inj h
      rw [List.getElem?_append_left (by rw [hs]; omega), Nat.zero_mul, Nat.zero_add]; exact hu
    | succ j =>
      rw [List.getElem?_cons_succ] at h
      rw [List.getElem?_append_right (by rw [hs, Nat.succ_mul]; omega), hs, show (j + 1) * s + i - s = j * s + i by rw [Nat.succ_mul]; omega]
      exact ih j p i u h hu
theorem row_C {α : Type} {d : Kd α} {enc : α → List Value} (hK : ∀ w x, d.K w x (enc x)) {w : World} {g : Nat} {xs : List α} {t : TypeId} {cs : Array Value} (h : w.heap[g]? = some (.cells cs t (0, 0))) (hc : cs = (xs.flatMap enc).toArray) (hl : xs.length ≤ 1000) : Kd.C d w (some ⟨g, 0, none⟩) xs.length xs := by
  refine ⟨rfl, by omega, fun _ => ⟨⟨g, 0, none⟩, rfl, fun j p hp => ⟨enc p, d.K_len (hK w p), hK w p, fun i u hu => ?_⟩⟩⟩
  have h2 := flat_at (fun x => d.K_len (hK w x)) xs j p i u hp hu
  have h3 := blk_cell h (j * d.sz + i)
  rw [hc, List.getElem?_toArray, h2] at h3
  have e : (⟨g, 0, none⟩ : Addr).add (j * d.sz + i) = ⟨g, j * d.sz + i, none⟩ := by unfold Addr.add; split <;> simp_all
  rw [e]; exact h3
def encR (x : S56) : List Value := [.int .i64 x.f0, .int .i64 x.f1]
def encB (x : S135) : List Value := [.int .i64 x.f0, .int .i64 x.f1]
def encC (x : S126) : List Value := [.int .i64 x.f0, .int .i64 x.f1.f0, .int .i64 x.f1.f1, .int .i64 x.f2]
def encW (x : S137) : List Value := [.int .i64 x.f0, .int .i64 x.f1, .int .i64 x.f2.f0, .int .i64 x.f2.f1]
def encI (x : Int) : List Value := [.int .i64 x]
def twoL (room : Int) (k : Nat) : SL where
  a0 := 3
  l1 := [⟨2, 3⟩, ⟨1, 1⟩, ⟨2, 4⟩, ⟨3, 3⟩]
  l2 := [⟨room, 2⟩, ⟨2, 0⟩]
  l3 := [⟨0, ⟨6, 7⟩, 3⟩, ⟨1, ⟨5, 5⟩, 3⟩]
  l4 := [0, 1]
  l5 := [(⟨1, 2, ⟨0, 0⟩⟩ : S137), ⟨0, 0, ⟨0, 0⟩⟩].take k
theorem needs_mem {T : List (List Nat × List Nat)} {i j : Nat} (h : (needsT T i).contains j = true) : j ∈ needsT T i := by
  rwa [List.contains_iff_mem] at h
set_option maxRecDepth 100000 in
set_option maxHeartbeats 6400000 in
theorem two_calls (room : Int) (k : Nat) (hk : k ≤ 2) (w : World) :
    Calls Try.prog 69 #[.int .i64 room, .int .i64 (k : Int)] w fun e w' => ∃ x : SA, e = .returned (.agg (x.cells (twoL room k))) ∧ Rd w' x (twoL room k) ∧ Below w.heap.size w w' := by
  have HB := Aside0.mk (Below.refl w.heap.size w)
  go_enter Try.func69, Try.ntmps69
  go_upto_region 2 with (fail)
  obtain ⟨gr, hgr⟩ : ∃ g, g = w.heap.size := ⟨_, rfl⟩
  obtain ⟨gw, hgw⟩ : ∃ g, g = w.heap.size + 1 := ⟨_, rfl⟩
  obtain ⟨w2, hw2⟩ : ∃ w_, w_ = World.alloc (World.alloc w (Obj.cells #[.int .i64 0, .slice none 0 0, .slice none 0 0, .slice none 0 0, .slice none 0 0, .slice none 0 0] 39 (0, 0))) (Obj.cells #[.int .i64 1, .int .i64 2, .int .i64 0, .int .i64 0, .int .i64 0, .int .i64 0, .int .i64 0, .int .i64 0] 137 (0, 0)) := ⟨_, rfl⟩
  have BR : w2.heap[gr]? = some (.cells #[.int .i64 0, .slice none 0 0, .slice none 0 0, .slice none 0 0, .slice none 0 0, .slice none 0 0] 39 (0, 0)) := by rw [hw2, hgr]; exact blk_alloc (blk_new _ _) _
  have BW : w2.heap[gw]? = some (.cells #[.int .i64 1, .int .i64 2, .int .i64 0, .int .i64 0, .int .i64 0, .int .i64 0, .int .i64 0, .int .i64 0] 137 (0, 0)) := by
    have h_ := blk_new (World.alloc w (Obj.cells #[.int .i64 0, .slice none 0 0, .slice none 0 0, .slice none 0 0, .slice none 0 0, .slice none 0 0] 39 (0, 0))) (Obj.cells #[.int .i64 1, .int .i64 2, .int .i64 0, .int .i64 0, .int .i64 0, .int .i64 0, .int .i64 0, .int .i64 0] 137 (0, 0))
    rw [World.size_alloc] at h_
    rw [hw2, hgw]; exact h_
  have hb2 : Below w.heap.size w w2 := by rw [hw2]; exact below_alloc (below_alloc (Below.refl _ _) _) _
  rw [← hw2, ← hgw, ← hgr]
  have hki : (k : Int) ≤ 2 := by omega
  have hgrle : w.heap.size ≤ gr := by omega
  have hgwle : w.heap.size ≤ gw := by omega
  have hne : gw ≠ gr := by omega
  clear hw2 hgw hgr
  refine wp_open 19 _ (fun v => { tmps := #[.int .i64 room, .int .i64 (k : Int), undef, undef, .pointer (some ⟨gr, 0, none⟩), .slice (some ⟨gw, 0, none⟩) 2 2, .agg #[.int .i64 1, .int .i64 2, .int .i64 0, .int .i64 0], .agg #[.int .i64 0, .int .i64 0, .int .i64 0, .int .i64 0], .slice (some ⟨gw, 0, none⟩) 2 2, v 0, v 1, v 2, v 3, v 4, v 5, v 6, v 7, v 8, v 9, v 10, v 11, v 12, v 13, v 14, v 15, v 16, v 17, v 18], defers := [] }) (fun _ => undef) (fun j x w => match j with
    | 0 => x = .agg #[.int .i64 2, .int .i64 3]
    | 1 => x = .agg #[.int .i64 1, .int .i64 1]
    | 2 => x = .agg #[.int .i64 2, .int .i64 4]
    | 3 => x = .agg #[.int .i64 3, .int .i64 3]
    | 4 => ∃ g, x = .slice (some ⟨g, 0, none⟩) 4 4 ∧ w.heap[g]? = some (.cells #[.int .i64 2, .int .i64 3, .int .i64 1, .int .i64 1, .int .i64 2, .int .i64 4, .int .i64 3, .int .i64 3] 56 (0, 0))
    | 5 => x = .int .i64 room
    | 6 => x = .agg #[.int .i64 room, .int .i64 2]
    | 7 => x = .agg #[.int .i64 2, .int .i64 0]
    | 8 => ∃ g, x = .slice (some ⟨g, 0, none⟩) 2 2 ∧ w.heap[g]? = some (.cells #[.int .i64 room, .int .i64 2, .int .i64 2, .int .i64 0] 135 (0, 0))
    | 9 => x = .agg #[.int .i64 6, .int .i64 7]
    | 10 => x = .agg #[.int .i64 0, .int .i64 6, .int .i64 7, .int .i64 3]
    | 11 => x = .agg #[.int .i64 5, .int .i64 5]
    | 12 => x = .agg #[.int .i64 1, .int .i64 5, .int .i64 5, .int .i64 3]
    | 13 => ∃ g, x = .slice (some ⟨g, 0, none⟩) 2 2 ∧ w.heap[g]? = some (.cells #[.int .i64 0, .int .i64 6, .int .i64 7, .int .i64 3, .int .i64 1, .int .i64 5, .int .i64 5, .int .i64 3] 126 (0, 0))
    | 14 => ∃ g, x = .slice (some ⟨g, 0, none⟩) 2 2 ∧ w.heap[g]? = some (.cells #[.int .i64 0, .int .i64 1] 3 (0, 0))
    | 15 => x = .slice (some ⟨gw, 0, none⟩) 2 2
    | 16 => x = .int .i64 (k : Int)
    | 17 => x = .slice (some ⟨gw, 0, none⟩) k 2
    | 18 => ∃ g1 g2 g3 g4, x = .agg #[.int .i64 3, .slice (some ⟨g1, 0, none⟩) 4 4, .slice (some ⟨g2, 0, none⟩) 2 2, .slice (some ⟨g3, 0, none⟩) 2 2, .slice (some ⟨g4, 0, none⟩) 2 2, .slice (some ⟨gw, 0, none⟩) k 2] ∧ w.heap[g1]? = some (.cells #[.int .i64 2, .int .i64 3, .int .i64 1, .int .i64 1, .int .i64 2, .int .i64 4, .int .i64 3, .int .i64 3] 56 (0, 0)) ∧ w.heap[g2]? = some (.cells #[.int .i64 room, .int .i64 2, .int .i64 2, .int .i64 0] 135 (0, 0)) ∧ w.heap[g3]? = some (.cells #[.int .i64 0, .int .i64 6, .int .i64 7, .int .i64 3, .int .i64 1, .int .i64 5, .int .i64 5, .int .i64 3] 126 (0, 0)) ∧ w.heap[g4]? = some (.cells #[.int .i64 0, .int .i64 1] 3 (0, 0))
    | _ => True) (fun X => Below w2.heap.size w2 X) (by kernel_rfl) rfl rfl (by kernel_rfl) rfl (below_drew1 (Below.refl _ _)) ?_ ?_ ?_
  · intro j hj x W W' hb h
    obtain rfl | rfl | rfl | rfl | rfl | rfl | rfl | rfl | rfl | rfl | rfl | rfl | rfl | rfl | rfl | rfl | rfl | rfl | rfl : j = 0 ∨ j = 1 ∨ j = 2 ∨ j = 3 ∨ j = 4 ∨ j = 5 ∨ j = 6 ∨ j = 7 ∨ j = 8 ∨ j = 9 ∨ j = 10 ∨ j = 11 ∨ j = 12 ∨ j = 13 ∨ j = 14 ∨ j = 15 ∨ j = 16 ∨ j = 17 ∨ j = 18 := by omega
    all_goals first
      | exact h
      | (obtain ⟨g, e, h1⟩ := h; exact ⟨g, e, blk_below h1 hb⟩)
      | (obtain ⟨g1, g2, g3, g4, e, h1, h2, h3, h4⟩ := h; exact ⟨g1, g2, g3, g4, e, blk_below h1 hb, blk_below h2 hb, blk_below h3 hb, blk_below h4 hb⟩)
  · intro i hi
    obtain rfl | rfl | rfl | rfl | rfl | rfl | rfl | rfl | rfl | rfl | rfl | rfl | rfl | rfl | rfl | rfl | rfl | rfl | rfl : i = 0 ∨ i = 1 ∨ i = 2 ∨ i = 3 ∨ i = 4 ∨ i = 5 ∨ i = 6 ∨ i = 7 ∨ i = 8 ∨ i = 9 ∨ i = 10 ∨ i = 11 ∨ i = 12 ∨ i = 13 ∨ i = 14 ∨ i = 15 ∨ i = 16 ∨ i = 17 ∨ i = 18 := by omega
    · intro v w hB hj K hK
      refine wpOp_step (i := 0) (by rfl) (fun K' hK' => ?_)
      refine goes_ Try.func71 (by kernel_rfl) rfl #[.int .i64 2, .int .i64 3] (by rfl) rfl rfl (by (try simp only [List.map_toArray, List.map_cons, List.map_nil]); rfl) ?_
      refine (anillaw06_between.calls 2 3 2 3 w rfl).mono ?_
      rintro e w' ⟨rfl, hb⟩
      exact ⟨_, rfl, hK' _ _ (hK _ _ rfl (below_step hB hb) hb)⟩
    · intro v w hB hj K hK
      refine wpOp_step (i := 1) (by rfl) (fun K' hK' => ?_)
      refine goes_ Try.func71 (by kernel_rfl) rfl #[.int .i64 1, .int .i64 1] (by rfl) rfl rfl (by (try simp only [List.map_toArray, List.map_cons, List.map_nil]); rfl) ?_
      refine (anillaw06_between.calls 1 1 1 1 w rfl).mono ?_
      rintro e w' ⟨rfl, hb⟩
      exact ⟨_, rfl, hK' _ _ (hK _ _ rfl (below_step hB hb) hb)⟩
    · intro v w hB hj K hK
      refine wpOp_step (i := 2) (by rfl) (fun K' hK' => ?_)
      refine goes_ Try.func71 (by kernel_rfl) rfl #[.int .i64 2, .int .i64 4] (by rfl) rfl rfl (by (try simp only [List.map_toArray, List.map_cons, List.map_nil]); rfl) ?_
      refine (anillaw06_between.calls 2 4 2 4 w rfl).mono ?_
      rintro e w' ⟨rfl, hb⟩
      exact ⟨_, rfl, hK' _ _ (hK _ _ rfl (below_step hB hb) hb)⟩
    · intro v w hB hj K hK
      refine wpOp_step (i := 3) (by rfl) (fun K' hK' => ?_)
      refine goes_ Try.func71 (by kernel_rfl) rfl #[.int .i64 3, .int .i64 3] (by rfl) rfl rfl (by (try simp only [List.map_toArray, List.map_cons, List.map_nil]); rfl) ?_
      refine (anillaw06_between.calls 3 3 3 3 w rfl).mono ?_
      rintro e w' ⟨rfl, hb⟩
      exact ⟨_, rfl, hK' _ _ (hK _ _ rfl (below_step hB hb) hb)⟩
    · intro v w hB hj K hK
      have h0 : v 0 = .agg #[.int .i64 2, .int .i64 3] := hj 0 (needs_mem (by kernel_rfl))
      have h1 : v 1 = .agg #[.int .i64 1, .int .i64 1] := hj 1 (needs_mem (by kernel_rfl))
      have h2 : v 2 = .agg #[.int .i64 2, .int .i64 4] := hj 2 (needs_mem (by kernel_rfl))
      have h3 : v 3 = .agg #[.int .i64 3, .int .i64 3] := hj 3 (needs_mem (by kernel_rfl))
      refine wpOp_step (i := 4) (by rfl) (fun K' hK' => ?_)
      refine value_ (w1 := ?_) (v := ?_) (by rfl) rfl ?_ ?_
      rotate_left 2
      · go_simp
        constructor
        · rfl
        · rfl
      exact hK' _ _ (hK _ _ ⟨_, rfl, blk_new _ _⟩ (below_alloc hB _) (below_alloc (Below.refl _ _) _))
    · intro v w hB hj K hK
      refine wpOp_step (i := 5) (by rfl) (fun K' hK' => ?_)
      refine value_ (w1 := ?_) (v := ?_) (by rfl) rfl ?_ ?_
      rotate_left 2
      · go_simp
        constructor
        · rfl
        · rfl
      exact hK' _ _ (hK _ _ rfl hB (Below.refl _ _))
    · intro v w hB hj K hK
      have h5 : v 5 = .int .i64 room := hj 5 (needs_mem (by kernel_rfl))
      refine wpOp_step (i := 6) (by rfl) (fun K' hK' => ?_)
      refine value_ (w1 := ?_) (v := ?_) (by rfl) rfl ?_ ?_
      rotate_left 2
      · go_simp
        constructor
        · rfl
        · rfl
      exact hK' _ _ (hK _ _ rfl hB (Below.refl _ _))
    · intro v w hB hj K hK
      refine wpOp_step (i := 7) (by rfl) (fun K' hK' => ?_)
      refine value_ (w1 := ?_) (v := ?_) (by rfl) rfl ?_ ?_
      rotate_left 2
      · go_simp
        constructor
        · rfl
        · rfl
      exact hK' _ _ (hK _ _ rfl hB (Below.refl _ _))
    · intro v w hB hj K hK
      have h6 : v 6 = .agg #[.int .i64 room, .int .i64 2] := hj 6 (needs_mem (by kernel_rfl))
      have h7 : v 7 = .agg #[.int .i64 2, .int .i64 0] := hj 7 (needs_mem (by kernel_rfl))
      refine wpOp_step (i := 8) (by rfl) (fun K' hK' => ?_)
      refine value_ (w1 := ?_) (v := ?_) (by rfl) rfl ?_ ?_
      rotate_left 2
      · go_simp
        constructor
        · rfl
        · rfl
      exact hK' _ _ (hK _ _ ⟨_, rfl, blk_new _ _⟩ (below_alloc hB _) (below_alloc (Below.refl _ _) _))
    · intro v w hB hj K hK
      refine wpOp_step (i := 9) (by rfl) (fun K' hK' => ?_)
      refine goes_ Try.func71 (by kernel_rfl) rfl #[.int .i64 6, .int .i64 7] (by rfl) rfl rfl (by (try simp only [List.map_toArray, List.map_cons, List.map_nil]); rfl) ?_
      refine (anillaw06_between.calls 6 7 6 7 w rfl).mono ?_
      rintro e w' ⟨rfl, hb⟩
      exact ⟨_, rfl, hK' _ _ (hK _ _ rfl (below_step hB hb) hb)⟩
    · intro v w hB hj K hK
      have h9 : v 9 = .agg #[.int .i64 6, .int .i64 7] := hj 9 (needs_mem (by kernel_rfl))
      refine wpOp_step (i := 10) (by rfl) (fun K' hK' => ?_)
      refine value_ (w1 := ?_) (v := ?_) (by rfl) rfl ?_ ?_
      rotate_left 2
      · go_simp
        constructor
        · rfl
        · rfl
      exact hK' _ _ (hK _ _ rfl hB (Below.refl _ _))
    · intro v w hB hj K hK
      refine wpOp_step (i := 11) (by rfl) (fun K' hK' => ?_)
      refine goes_ Try.func71 (by kernel_rfl) rfl #[.int .i64 5, .int .i64 5] (by rfl) rfl rfl (by (try simp only [List.map_toArray, List.map_cons, List.map_nil]); rfl) ?_
      refine (anillaw06_between.calls 5 5 5 5 w rfl).mono ?_
      rintro e w' ⟨rfl, hb⟩
      exact ⟨_, rfl, hK' _ _ (hK _ _ rfl (below_step hB hb) hb)⟩
    · intro v w hB hj K hK
      have h11 : v 11 = .agg #[.int .i64 5, .int .i64 5] := hj 11 (needs_mem (by kernel_rfl))
      refine wpOp_step (i := 12) (by rfl) (fun K' hK' => ?_)
      refine value_ (w1 := ?_) (v := ?_) (by rfl) rfl ?_ ?_
      rotate_left 2
      · go_simp
        constructor
        · rfl
        · rfl
      exact hK' _ _ (hK _ _ rfl hB (Below.refl _ _))
    · intro v w hB hj K hK
      have h10 : v 10 = .agg #[.int .i64 0, .int .i64 6, .int .i64 7, .int .i64 3] := hj 10 (needs_mem (by kernel_rfl))
      have h12 : v 12 = .agg #[.int .i64 1, .int .i64 5, .int .i64 5, .int .i64 3] := hj 12 (needs_mem (by kernel_rfl))
      refine wpOp_step (i := 13) (by rfl) (fun K' hK' => ?_)
      refine value_ (w1 := ?_) (v := ?_) (by rfl) rfl ?_ ?_
      rotate_left 2
      · go_simp
        constructor
        · rfl
        · rfl
      exact hK' _ _ (hK _ _ ⟨_, rfl, blk_new _ _⟩ (below_alloc hB _) (below_alloc (Below.refl _ _) _))
    · intro v w hB hj K hK
      refine wpOp_step (i := 14) (by rfl) (fun K' hK' => ?_)
      refine value_ (w1 := ?_) (v := ?_) (by rfl) rfl ?_ ?_
      rotate_left 2
      · go_simp
        constructor
        · rfl
        · rfl
      exact hK' _ _ (hK _ _ ⟨_, rfl, blk_new _ _⟩ (below_alloc hB _) (below_alloc (Below.refl _ _) _))
    · intro v w hB hj K hK
      refine wpOp_step (i := 15) (by rfl) (fun K' hK' => ?_)
      refine value_ (w1 := ?_) (v := ?_) (by rfl) rfl ?_ ?_
      rotate_left 2
      · go_simp
        constructor
        · rfl
        · rfl
      exact hK' _ _ (hK _ _ rfl hB (Below.refl _ _))
    · intro v w hB hj K hK
      refine wpOp_step (i := 16) (by rfl) (fun K' hK' => ?_)
      refine value_ (w1 := ?_) (v := ?_) (by rfl) rfl ?_ ?_
      rotate_left 2
      · go_simp
        constructor
        · rfl
        · rfl
      exact hK' _ _ (hK _ _ rfl hB (Below.refl _ _))
    · intro v w hB hj K hK
      have h15 : v 15 = .slice (some ⟨gw, 0, none⟩) 2 2 := hj 15 (needs_mem (by kernel_rfl))
      have h16 : v 16 = .int .i64 (k : Int) := hj 16 (needs_mem (by kernel_rfl))
      refine wpOp_step (i := 17) (by rfl) (fun K' hK' => ?_)
      refine value_ (w1 := ?_) (v := ?_) (by rfl) rfl ?_ ?_
      rotate_left 2
      · go_simp
        constructor
        · rfl
        · rfl
      exact hK' _ _ (hK _ _ rfl hB (Below.refl _ _))
    · intro v w hB hj K hK
      obtain ⟨g4, h4, b4⟩ := hj 4 (needs_mem (by kernel_rfl))
      obtain ⟨g8, h8, b8⟩ := hj 8 (needs_mem (by kernel_rfl))
      obtain ⟨g13, h13, b13⟩ := hj 13 (needs_mem (by kernel_rfl))
      obtain ⟨g14, h14, b14⟩ := hj 14 (needs_mem (by kernel_rfl))
      have h17 : v 17 = .slice (some ⟨gw, 0, none⟩) k 2 := hj 17 (needs_mem (by kernel_rfl))
      refine wpOp_step (i := 18) (by rfl) (fun K' hK' => ?_)
      refine value_ (w1 := ?_) (v := ?_) (by rfl) rfl ?_ ?_
      rotate_left 2
      · go_simp
        constructor
        · rfl
        · rfl
      exact hK' _ _ (hK _ _ ⟨g4, g8, g13, g14, rfl, b4, b8, b13, b14⟩ hB (Below.refl _ _))
  · intro v W hB hj K hK
    obtain ⟨g1, g2, g3, g4, h18, b1, b2, b3, b4⟩ := hj 18 (needs_mem (by kernel_rfl))
    have c1_ := blk_below BR hB
    have c2_ := blk_below BW hB
    refine wpOp_step (i := 19) (by rfl) (fun K' hK' => ?_)
    rw [if_pos (by rfl)]
    refine wp_store_row 39 (.tmp 4) (.tmp 27) rfl gr #[.int .i64 3, .slice (some ⟨g1, 0, none⟩) 4 4, .slice (some ⟨g2, 0, none⟩) 2 2, .slice (some ⟨g3, 0, none⟩) 2 2, .slice (some ⟨g4, 0, none⟩) 2 2, .slice (some ⟨gw, 0, none⟩) k 2] rfl h18 39 _ c1_ (by kernel_rfl) rfl (by simp [Value.oneCell']) ?_
    refine hK' _ _ (hK _ _ ?_)
    obtain ⟨w9, hw9⟩ : ∃ w_, w_ = W.setRow gr #[.int .i64 3, .slice (some ⟨g1, 0, none⟩) 4 4, .slice (some ⟨g2, 0, none⟩) 2 2, .slice (some ⟨g3, 0, none⟩) 2 2, .slice (some ⟨g4, 0, none⟩) 2 2, .slice (some ⟨gw, 0, none⟩) k 2] := ⟨_, rfl⟩
    have H9 := Aside0.mk (show w9.heap[gr]? = some (.cells #[.int .i64 3, .slice (some ⟨g1, 0, none⟩) 4 4, .slice (some ⟨g2, 0, none⟩) 2 2, .slice (some ⟨g3, 0, none⟩) 2 2, .slice (some ⟨g4, 0, none⟩) 2 2, .slice (some ⟨gw, 0, none⟩) k 2] 39 (0, 0)) by rw [hw9]; exact setRow_heap W gr _ _ _ _ c1_)
    have HB9 := Aside0.mk (show Below w.heap.size w w9 by rw [hw9]; exact below_setRow (below_step hb2 hB) hgrle _)
    have far : ∀ {g : Nat} {cs : Array Value} {t : TypeId}, W.heap[g]? = some (.cells cs t (0, 0)) → g ≠ gr → w9.heap[g]? = some (.cells cs t (0, 0)) := fun h hn => by rw [hw9, setRow_other W gr _ _ hn]; exact h
    have D1 := Aside0.mk (far b1 (blk_ne b1 c1_ (by decide)))
    have D2 := Aside0.mk (far b2 (blk_ne b2 c1_ (by decide)))
    have D3 := Aside0.mk (far b3 (blk_ne b3 c1_ (by decide)))
    have D4 := Aside0.mk (far b4 (blk_ne b4 c1_ (by decide)))
    have D5 := Aside0.mk (far c2_ hne)
    rw [← hw9]
    clear hw9 far b1 b2 b3 b4 c1_ c2_ hB hj K' hK' hK K BR BW hb2
    go_wp2
    refine bodyPost_ret (results_cell_row rfl _ _ gr 39 _ (0, 0) _ rfl H9.out Try.underlying39 rfl (by kernel_rfl)) rfl ?_
    have h5 : (twoL room k).l5.length = k := by unfold twoL; rw [List.length_take]; simp; omega
    refine ⟨⟨some ⟨g1, 0, none⟩, 4, some ⟨g2, 0, none⟩, 2, some ⟨g3, 0, none⟩, 2, some ⟨g4, 0, none⟩, 2, some ⟨gw, 0, none⟩, 2⟩, ?_, ⟨?_, ?_, ?_, ?_, ?_, Nat.le_refl _, Nat.le_refl _, Nat.le_refl _, Nat.le_refl _, by rw [h5]; exact hk⟩, HB9.out⟩
    · unfold SA.cells
      rw [h5]; rfl
    · exact row_C (enc := encR) k56_mk D1.out rfl (show 4 ≤ 1000 by decide)
    · exact row_C (enc := encB) k135_mk D2.out rfl (show 2 ≤ 1000 by decide)
    · exact row_C (enc := encC) k126_mk D3.out rfl (show 2 ≤ 1000 by decide)
    · exact row_C (enc := encI) (fun _ _ => rfl) D4.out rfl (show 2 ≤ 1000 by decide)
    · exact Kd.C_take (row_C (enc := encW) k137_mk (xs := [⟨1, 2, ⟨0, 0⟩⟩, ⟨0, 0, ⟨0, 0⟩⟩]) D5.out rfl (by decide)) hk
end Go.Proofs.Ytjifalohjlihaaa.Q
end
section
namespace Go.Proofs.Ytjifalohjlihaaa.Q
set_option linter.unusedVariables false
open Go.BigFrame Go.RowKit Go.Shelf Go.Proofs.YtjifalohjlihaaaW.PrintWords Go.Proofs.YtjifalohjlihaaaW.PrintLast Go.Proofs.YtjifalohjlihaaaW.PrintMore
def SL.bestFrom (l : SL) : Nat → Int → Option (List Int × Int)
  | 0, _ => none
  | k + 1, d => (l.placeBy d).elim (l.bestFrom k (d + 1)) fun q => some (q, d)
def SL.bestErr (l : SL) : Int := if l.err true ≠ 0 then l.err true else if l.bestFrom (l.a0 + 1).toNat 0 = none then 10 else 0
def SL.bestOf (l : SL) : List Int × Int := if l.bestErr = 0 then (l.bestFrom (l.a0 + 1).toNat 0).getD ([], 0) else ([], 0)
set_option maxRecDepth 100000 in
set_option maxHeartbeats 6400000 in
theorem Best.calls (x : SA) (l : SL) (w : World) (hr : Rd w x l) :
    Calls Try.prog 59 #[.agg (x.cells l)] w fun e w' => ∃ v, e = .returned (.tuple #[v, .int .i64 l.bestOf.2, .int .i64 l.bestErr]) ∧ Kd.R (Kd.int .i64) 3 w' w.heap.size (fun _ => True) v l.bestOf.1 ∧ Below w.heap.size w w' := by
  obtain ⟨A1, c1, A2, c2, A3, c3, A4, c4, A5, c5⟩ := x
  have HB := Aside0.mk (Below.refl w.heap.size w)
  have HR := Aside0.mk hr
  obtain ⟨er, her⟩ : ∃ er, er = l.err true := ⟨_, rfl⟩
  obtain ⟨dv, hdv⟩ : ∃ dv, dv = l.bestOf := ⟨_, rfl⟩
  obtain ⟨de, hde⟩ : ∃ de, de = l.bestErr := ⟨_, rfl⟩
  rw [← hdv, ← hde]
  have HDE := Aside0.mk (show de = if er ≠ 0 then er else if l.bestFrom (l.a0 + 1).toNat 0 = none then 10 else 0 by rw [hde, her]; rfl)
  have HDV := Aside0.mk (show dv = if de = 0 then (l.bestFrom (l.a0 + 1).toNat 0).getD ([], 0) else ([], 0) by rw [hdv, hde]; rfl)
  have HBV := Aside0.mk her
  clear hr her hdv hde
  go_enter Try.func59, Try.ntmps59
  by_cases hz : er = 0
  · have hzb : (er != 0) = false := by rw [hz]; rfl
    have HZ := Aside0.mk hz
    obtain ⟨hf0, _, hne0⟩ := err_zero (HBV.out.symm.trans hz)
    have HF := Aside0.mk hf0
    have HNE := Aside0.mk hne0
    have la5 := (valid_of hf0).last5
    have la0 := (valid_of hf0).last0
    have hwa : IntKind.i64.wrap (l.a0 + 1) = l.a0 + 1 := IntWalk.i64_in _ (by omega)
    clear hz hf0 hne0
    go_wp2_with (first | ((with_reducible refine gate_dst (N := 1) rfl ?_); refine box_event ?hg (N := 1) ?hd (cs := #[.int .i64 l.a0, .slice A1 l.l1.length c1, .slice A2 l.l2.length c2, .slice A3 l.l3.length c3, .slice A4 l.l4.length c4, .slice A5 l.l5.length c5]) (t := 39) ?hr ?_; (case hd => rfl); (case hg => rfl); (case hr => first | (go_simp; done) | (go_simp; rfl)); intro g2 hg_ w2 hbx_ hb_; have BK2 := Aside0.mk hbx_; have g2ge : w.heap.size ≤ g2 := (by have := below_size HB.out; omega); have g2GE := Aside0.mk g2ge; clear g2ge; have HBn := Aside0.mk (below_step HB.out hb_); clear HB hg_ hb_ hbx_; have HB := HBn; clear HBn; have f0 : w2.cell? ⟨g2, 0, none⟩ = some (.int .i64 l.a0) := (blk_cell BK2.out 0).trans rfl; have f1 : w2.cell? ⟨g2, 1, none⟩ = some (.slice A1 l.l1.length c1) := (blk_cell BK2.out 1).trans rfl; have f2 : w2.cell? ⟨g2, 2, none⟩ = some (.slice A2 l.l2.length c2) := (blk_cell BK2.out 2).trans rfl; have f3 : w2.cell? ⟨g2, 3, none⟩ = some (.slice A3 l.l3.length c3) := (blk_cell BK2.out 3).trans rfl; have f4 : w2.cell? ⟨g2, 4, none⟩ = some (.slice A4 l.l4.length c4) := (blk_cell BK2.out 4).trans rfl; have f5 : w2.cell? ⟨g2, 5, none⟩ = some (.slice A5 l.l5.length c5) := (blk_cell BK2.out 5).trans rfl) | (go_at_call 72; go_must (refine (L_asked.calls ⟨A1, c1, A2, c2, A3, c3, A4, c4, A5, c5⟩ l 109 #[] true w2 (HR.out.below HB.out) (fun _ W _ => always_call W) always_enter).mono ?_; clear f0 f1 f2 f3 f4 f5; rintro e wA hA; have hbA := hA.1; replace hA := job_of (HR.out.below HB.out) hA; rw [← HBV.out] at hA; replace BK2 := Aside0.mk (blk_below BK2.out hbA); rcases hA with ⟨hz0, rfl, _⟩ | ⟨hz0, gW, gM, A7, c7, rfl, hJ, hM⟩; exact absurd HZ.out hz0; have J := Aside0.mk hJ; have HM := Aside0.mk hM; clear hbA hz0 hJ hM; have fL : wA.cell? ⟨g2, 0, none⟩ = some (.int .i64 l.a0) := (blk_cell BK2.out 0).trans rfl)))
    clear fL
    go_loopw [20] (fun v20 wr => ∃ i : Int, v20 = .int .i64 i ∧ 0 ≤ i ∧ i ≤ l.a0 + 1 ∧ Aside0 (l.bestFrom (l.a0 + 1 - i).toNat i = l.bestFrom (l.a0 + 1).toNat 0) ∧ Aside0 (Job w2 wr ⟨A1, c1, A2, c2, A3, c3, A4, c4, A5, c5⟩ l gW gM A7 c7) ∧ Aside0 (l.Days wr gM)) (fun v20 _ => (l.a0 + 1 - intOf v20).toNat)
    case atStart => exact ⟨0, rfl, by omega, by omega, ⟨by simp⟩, J, HM⟩
    case round =>
      clear BK2 J HM
      obtain ⟨i, rfl, i0, i1, HS, J, HM⟩ := hrel
      by_cases hlt : i < l.a0 + 1
      · obtain ⟨r, hr⟩ : ∃ r, r = l.placeBy i := ⟨_, rfl⟩
        have HST := Aside0.mk (show l.bestFrom (l.a0 + 1).toNat 0 = r.elim (l.bestFrom (l.a0 + 1 - (i + 1)).toNat (i + 1)) fun q => some (q, i) by
          rw [← HS.out, hr]
          have hk : (l.a0 + 1 - i).toNat = (l.a0 + 1 - (i + 1)).toNat + 1 := by omega
          rw [hk]; rfl)
        have HC := Aside0.mk (place_calls _ l gW gM A7 c7 i w2 wr J.out HM.out HF.out HNE.out)
        rw [← hr] at HC
        have hwi : IntKind.i64.wrap (i + 1) = i + 1 := IntWalk.i64_in _ (by omega)
        clear hr HS J HM
        cases r with
        | some q =>
          have hb1 : (some q).isSome = true := rfl
          rw [hb1] at HC
          have HE2 := Aside0.mk (show de = 0 by rw [HDE.out, if_neg (by rw [HZ.out]; simp), HST.out]; simp)
          have HV2 := Aside0.mk (show dv = (q, i) by rw [HDV.out, if_pos HE2.out, HST.out]; rfl)
          go_wp2_with (go_at_call 110; go_must (refine HC.out.mono ?_; rintro e wp ⟨v, rfl, hj, hm, hbp, hq⟩))
          go_ret3
          exact ⟨v, by rw [HV2.out, HE2.out]; rfl, by rw [HV2.out]; exact Kd.R_lower (hq q rfl) HB.out.size, below_step HB.out hj.bel⟩
        | none =>
          have hb1 : (none : Option (List Int)).isSome = false := rfl
          rw [hb1] at HC
          go_wp2_with (go_at_call 110; go_must (refine HC.out.mono ?_; rintro e wp ⟨v, rfl, hj, hm, hbp, hq⟩))
          exact ⟨⟨i + 1, rfl, by omega, by omega, ⟨by rw [HST.out]; rfl⟩, ⟨hj⟩, ⟨hm⟩⟩, by simp [intOf]; omega⟩
      · have hie : i = l.a0 + 1 := by omega
        have hnone : l.bestFrom (l.a0 + 1).toNat 0 = none := by rw [← HS.out, hie, Int.sub_self]; rfl
        have HE2 := Aside0.mk (show de = 10 by rw [HDE.out, if_neg (by rw [HZ.out]; simp), if_pos hnone])
        have HV2 := Aside0.mk (show dv = ([], 0) by rw [HDV.out, HE2.out]; rfl)
        have HBJ := Aside0.mk (below_step HB.out J.out.bel)
        clear hie hnone
        go_wp2
        go_ret3
        exact ⟨_, by rw [HV2.out, HE2.out]; rfl, by rw [HV2.out]; exact Kd.R_nil _ _ _ _ _, HBJ.out⟩
  · have hzb : (er != 0) = true := by simpa using hz
    have HZ := Aside0.mk hz
    have HE2 := Aside0.mk (show de = er by rw [HDE.out, if_pos hz])
    have HV2 := Aside0.mk (show dv = ([], 0) by rw [HDV.out, HE2.out, if_neg hz])
    clear hz
    go_wp2_with (first | ((with_reducible refine gate_dst (N := 1) rfl ?_); refine box_event ?hg (N := 1) ?hd (cs := #[.int .i64 l.a0, .slice A1 l.l1.length c1, .slice A2 l.l2.length c2, .slice A3 l.l3.length c3, .slice A4 l.l4.length c4, .slice A5 l.l5.length c5]) (t := 39) ?hr ?_; (case hd => rfl); (case hg => rfl); (case hr => first | (go_simp; done) | (go_simp; rfl)); intro g2 hg_ w2 hbx_ hb_; have BK2 := Aside0.mk hbx_; have g2ge : w.heap.size ≤ g2 := (by have := below_size HB.out; omega); have g2GE := Aside0.mk g2ge; clear g2ge; have HBn := Aside0.mk (below_step HB.out hb_); clear HB hg_ hb_ hbx_; have HB := HBn; clear HBn; have f0 : w2.cell? ⟨g2, 0, none⟩ = some (.int .i64 l.a0) := (blk_cell BK2.out 0).trans rfl; have f1 : w2.cell? ⟨g2, 1, none⟩ = some (.slice A1 l.l1.length c1) := (blk_cell BK2.out 1).trans rfl; have f2 : w2.cell? ⟨g2, 2, none⟩ = some (.slice A2 l.l2.length c2) := (blk_cell BK2.out 2).trans rfl; have f3 : w2.cell? ⟨g2, 3, none⟩ = some (.slice A3 l.l3.length c3) := (blk_cell BK2.out 3).trans rfl; have f4 : w2.cell? ⟨g2, 4, none⟩ = some (.slice A4 l.l4.length c4) := (blk_cell BK2.out 4).trans rfl; have f5 : w2.cell? ⟨g2, 5, none⟩ = some (.slice A5 l.l5.length c5) := (blk_cell BK2.out 5).trans rfl) | (go_at_call 72; go_must (refine (L_asked.calls ⟨A1, c1, A2, c2, A3, c3, A4, c4, A5, c5⟩ l 109 #[] true w2 (HR.out.below HB.out) (fun _ W _ => always_call W) always_enter).mono ?_; clear f0 f1 f2 f3 f4 f5; rintro e wA hA; have hbA := hA.1; replace hA := job_of (HR.out.below HB.out) hA; rw [← HBV.out] at hA; replace BK2 := Aside0.mk (blk_below BK2.out hbA); rcases hA with ⟨hz0, rfl, _⟩ | ⟨hz0, gW, gM, A7, c7, rfl, hJ, hM⟩; rotate_left; exact absurd hz0 HZ.out; replace HB := Aside0.mk (below_step HB.out hbA); clear hbA hz0)))
    go_ret3
    exact ⟨_, by rw [HV2.out, HE2.out]; rfl, by rw [HV2.out]; exact Kd.R_nil _ _ _ _ _, HB.out⟩
end Go.Proofs.Ytjifalohjlihaaa.Q
end
section
namespace Go.Proofs.Ytjifalohjlihaaa.Q
set_option linter.unusedVariables false
open Go.BigFrame Go.RowKit Go.Shelf Go.Proofs.YtjifalohjlihaaaW.PrintWords Go.Proofs.YtjifalohjlihaaaW.PrintLast Go.Proofs.YtjifalohjlihaaaW.PrintMore
theorem ex_err : (twoL 1 0).playErr [0, 1] [2, 1, 3, 3] [7, 5] = 0 := by kernel_rfl
theorem ex_play : (twoL 1 0).playOf [0, 1] [2, 1, 3, 3] [7, 5] = [[3, 0, 0, 0], [4, 1, 0]] := by kernel_rfl
theorem ex_leftE : (twoL 1 0).err (decide ((twoL 1 0).isPlace [0, 1]) && (twoL 1 0).is 1) = 0 := by kernel_rfl
theorem ex_left : (if (twoL 1 0).err (decide ((twoL 1 0).isPlace [0, 1]) && (twoL 1 0).is 1) = 0 then (twoL 1 0).lefts [0, 1] 1 else []) = [⟨4, 4⟩, ⟨0, 2⟩, ⟨0, 0⟩] := by kernel_rfl
theorem ex_dryE : (twoL 1 0).err (decide ((twoL 1 0).isPlace [0, 1]) && (twoL 1 0).day 1 2) = 0 := by kernel_rfl
theorem ex_dry : (if (twoL 1 0).err (decide ((twoL 1 0).isPlace [0, 1]) && (twoL 1 0).day 1 2) = 0 then (twoL 1 0).dry 1 (rd [0, 1] 1) (2 - (rd_T126 (twoL 1 0).l3 1).f0) else 0) = 3 := by kernel_rfl
theorem ex_day : (twoL 1 0).dayOf [0, 1] 0 = 1 := by kernel_rfl
theorem ex_dayE : (twoL 1 0).dayErr [0, 1] 0 = 0 := by kernel_rfl
theorem ex_stuck : (twoL 1 0).stuckOf [1, 0] = 0 := by kernel_rfl
theorem ex_stuckE : (twoL 1 0).stuckErr [1, 0] = 0 := by kernel_rfl
theorem ex_best : (twoL 2 0).bestOf = ([0, 0], 2) := by kernel_rfl
theorem ex_bestE : (twoL 2 0).bestErr = 0 := by kernel_rfl
theorem ex_by : (twoL 1 1).byOf 2 = [0, 1] := by kernel_rfl
theorem ex_byE : (twoL 1 1).byErr 2 = 0 := by kernel_rfl
theorem ex_first : (twoL 1 2).firstOf = 1 := by kernel_rfl
theorem ex_firstE : (twoL 1 2).firstErr = 0 := by kernel_rfl
theorem ex_leave : (twoL 1 2).leaves = [1] := by kernel_rfl
theorem ex_leaveE : (twoL 1 2).fault = 0 := by kernel_rfl
end Go.Proofs.Ytjifalohjlihaaa.Q
end
