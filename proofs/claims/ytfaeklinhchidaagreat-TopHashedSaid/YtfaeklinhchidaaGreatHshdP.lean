/-
  A key is put into a tree. No program in sight.
-/
import Derived.Test.YtfaeklinhchidaaGreatTrpD
import Derived.Test.YtfaeklinhchidaaGreatLookP
import Derived.Test.YtfaeklinhchidaaGreatDskF
import Derived.Test.YtfaeklinhchidaaGreatElems
import Derived.Test.YtfaeklinhchidaaGreatStrs
set_option linter.all false
set_option maxRecDepth 100000
namespace Go.Proofs.YtfaeklinhchidaaGreat
open Go Hold
theorem put_two {M : Nat → St → Nd → Nat → Option (Nd × St)} (hM : MendEasy M) {U : Uz} {N : Nat} {s : St} {ls : List Lf} {fr : List Nat} {key val : Bs} (hok : ∀ p, p < N → (s.cc p).Ok) (hsr : Srt (ls.flatMap (·.es))) (hen : ∀ e ∈ ls.flatMap (·.es), EnU U e) (hf : FrOk s (s.root :: ls.map (·.pg)) fr) (t : Two U s ls)
    (hw : s.w ≤ 10) (hk : key.length = U.kl) (hv : val.length = U.vl) (hN : s.fresh + 2 < N) (hN2 : N ≤ 60000) (hT : (insL key val (ls.flatMap (·.es))).length / U.lo * (U.kl + 3) ≤ 253) :
    ∃ s' fr' used', ((atS M N (putF key val) key 3 s s.root []).bind fun q => (growS N q.1 q.2).bind fun s3 => (dropS N 3 s3).bind fun s4 => finS N s4) = some s' ∧ TInv U N s' (insL key val (ls.flatMap (·.es))) fr' used' ∧ s'.fresh ≤ s.fresh + 2 ∧ s'.root ≠ 0 ∧ (fr = [] → fr' = []) := by
  have hl1 := U.l1; have hl2 := U.l2; have hl3 := U.l3
  obtain ⟨L1, x, L2, sp⟩ := spot_of (key := key) t.o t.h (fun e => by have := t.n; rw [e] at this; simp at this)
  have hrm := hf.m s.root (by simp)
  have hrN : s.root < N := by omega
  have hxm : x ∈ ls := by rw [sp.e]; simp
  have hxp := hf.m x.pg (by simp; exact .inr (.inl ⟨x, hxm, rfl⟩))
  have hxN : x.pg < N := by omega
  have hfl : ls.flatMap (·.es) = L1.flatMap (·.es) ++ x.es ++ L2.flatMap (·.es) := by rw [sp.e]; simp
  have hsx : Srt x.es := by rw [hfl] at hsr; exact (List.pairwise_append.1 (List.pairwise_append.1 hsr).1).2.1
  have hex : ∀ e ∈ x.es, EnU U e := fun e hm => hen e (List.mem_flatMap.2 ⟨x, hxm, hm⟩)
  have hins : insL key val (ls.flatMap (·.es)) = L1.flatMap (·.es) ++ insL key val x.es ++ L2.flatMap (·.es) := by
    rw [hfl] at hsr ⊢; exact ins_mid hsr sp.a sp.b
  have hnd := hf.d
  rw [List.cons_append, List.nodup_cons] at hnd
  have hrne : ∀ y ∈ ls, y.pg ≠ s.root := fun y hy e => hnd.1 (List.mem_append_left _ (by rw [← e]; exact List.mem_map_of_mem hy))
  have hpd : (ls.map (·.pg)).Nodup := (List.nodup_append.1 hnd.2).1
  have hxne : ∀ y, y ∈ L1 ∨ y ∈ L2 → y.pg ≠ x.pg := fun y hy e => by
    rw [sp.e, List.map_append, List.map_cons, List.nodup_append, List.nodup_cons] at hpd
    rcases hy with hy | hy
    · exact hpd.2.2 y.pg (List.mem_map_of_mem hy) x.pg (by simp) e
    · exact hpd.2.1.1 (by rw [← e]; exact List.mem_map_of_mem hy)
  have hes := ins_srt (key := key) (val := val) hsx
  have hee := ins_enu hsx hex hk hv
  obtain ⟨n1, n2, n3⟩ := ins_len (key := key) (val := val) hsx
  have hxl := t.l x hxm
  have hSr := ins_srt (key := key) (val := val) hsr
  have hEn := ins_enu hsr hen hk hv
  have hrd := readS_eq hrN t.r
  have hrx : readS N s x.pg = some ⟨true, x.es⟩ := readS_eq hxN (t.c x hxm)
  have hEn0 : (ls.map Lf.en) = L1.map Lf.en ++ x.en :: L2.map Lf.en := by rw [sp.e]; simp
  have hgi : (ls.map Lf.en)[(findP ⟨false, ls.map Lf.en⟩ key).1]? = some x.en := by
    rw [sp.i, hEn0, List.getElem?_append_right (by simp)]; simp
  have hrebuild : ∀ below : List En, (ls.map Lf.en).take (findP ⟨false, ls.map Lf.en⟩ key).1 ++ below ++ (ls.map Lf.en).drop ((findP ⟨false, ls.map Lf.en⟩ key).1 + 1) = L1.map Lf.en ++ below ++ L2.map Lf.en := fun below => by
    rw [sp.i, hEn0, List.take_left' (by simp), List.drop_append, List.drop_eq_nil_of_le (by simp)]
    simp
  -- what is the same for one new leaf and for two
  have fin : ∀ (Ns : List Lf) (s1 : St) (fr1 : List Nat), Ns ≠ [] → atS M N (putF key val) key 2 s x.en.pg x.en.k = some (Ns.map Lf.en, s1) → s1.root = s.root → (∀ p, p < N → (s1.cc p).Ok) → FrOk s1 (s1.root :: (L1 ++ Ns ++ L2).map (·.pg)) fr1 →
      (∀ y ∈ Ns, s1.cc y.pg = .node ⟨true, y.es⟩) → (∀ y, y ∈ L1 ∨ y ∈ L2 → s1.cc y.pg = s.cc y.pg) → (∀ y ∈ Ns, U.lo ≤ y.es.length ∧ y.es.length ≤ U.cap) → (∀ y, Ns.head? = some y → y.low = x.low) → Ord Ns → (∀ y ∈ Ns, y.low = x.low ∨ lexB x.low y.low = true) →
      (∀ y ∈ Ns, ∀ b ∈ L2, lexB y.low b.low = true ∧ ∀ e ∈ y.es, lexB e.k b.low = true) → (∀ y ∈ Ns, y.low.length ≤ U.kl) → Ns.flatMap (·.es) = insL key val x.es → s1.w ≤ 20 → s1.fresh ≤ s.fresh + 1 → (fr = [] → fr1 = []) → (∀ y ∈ Ns, ∀ e ∈ y.es, EnU U e) →
      ∃ s' fr' used', ((atS M N (putF key val) key 3 s s.root []).bind fun q => (growS N q.1 q.2).bind fun s3 => (dropS N 3 s3).bind fun s4 => finS N s4) = some s' ∧ TInv U N s' (insL key val (ls.flatMap (·.es))) fr' used' ∧ s'.fresh ≤ s.fresh + 2 ∧ s'.root ≠ 0 ∧ (fr = [] → fr' = []) := by
    intro Ns s1 fr1 hNs hat hr1 hok1 hf1 hc1 hc2 hl hh1 ho1 hlow hb2 hlw hfm hw1 hfr1 hfre hNe
    have hF : (L1 ++ Ns ++ L2).flatMap (·.es) = insL key val (ls.flatMap (·.es)) := by rw [hins, ← hfm]; simp
    have hord : Ord (L1 ++ Ns ++ L2) := ord_replace (by rw [← sp.e]; exact t.o) ho1 hlow hb2
    have hpos : 0 < Ns.length := List.length_pos_iff.2 hNs
    have hlen : 2 ≤ (L1 ++ Ns ++ L2).length := by
      have := t.n
      rw [sp.e] at this
      simp only [List.length_append, List.length_cons] at this ⊢; omega
    have hall : ∀ y ∈ L1 ++ Ns ++ L2, U.lo ≤ y.es.length ∧ y.es.length ≤ U.cap := fun y hy => by
      rcases List.mem_append.1 hy with hy | hy
      · rcases List.mem_append.1 hy with hy | hy
        · exact t.l y (by rw [sp.e]; simp [hy])
        · exact hl y hy
      · exact t.l y (by rw [sp.e]; simp [hy])
    have hbound : (L1 ++ Ns ++ L2).length * (U.kl + 3) ≤ 253 := by
      have h1 := flat_lenL (m := U.lo) (f := fun y : Lf => y.es) (l := L1 ++ Ns ++ L2) (fun y hy => (hall y hy).1)
      rw [hF] at h1
      have h2 : (L1 ++ Ns ++ L2).length ≤ (insL key val (ls.flatMap (·.es))).length / U.lo := (Nat.le_div_iff_mul_le (by omega)).2 h1
      exact Nat.le_trans (Nat.mul_le_mul_right _ h2) hT
    obtain ⟨y0, Nt, rfl⟩ : ∃ y0 Nt, Ns = y0 :: Nt := by cases Ns with
      | nil => exact absurd rfl hNs
      | cons y l => exact ⟨y, l, rfl⟩
    have hy0p : y0.pg < N := by
      have := (hf1.m y0.pg (by simp)).2; omega
    have hm : M N s1 ⟨false, (L1 ++ (y0 :: Nt) ++ L2).map Lf.en⟩ L1.length = some (⟨false, (L1 ++ (y0 :: Nt) ++ L2).map Lf.en⟩, s1) := by
      refine hM.b (c := y0.en) (ch := ⟨true, y0.es⟩) (by show 2 ≤ ((L1 ++ (y0 :: Nt) ++ L2).map Lf.en).length; rw [List.length_map]; exact hlen) ?_ (readS_eq hy0p (hc1 y0 (by simp))) (leaf_rich (hNe y0 (by simp)) (hl y0 (by simp)).1)
      show ((L1 ++ (y0 :: Nt) ++ L2).map Lf.en)[L1.length]? = _
      rw [List.getElem?_map, List.append_assoc, List.getElem?_append_right (Nat.le_refl _)]
      simp
    have hat3 : atS M N (putF key val) key 3 s s.root [] = writeS N s1 s1.root [] ⟨false, (L1 ++ (y0 :: Nt) ++ L2).map Lf.en⟩ := by
      rw [hr1]
      refine at_two hrd hgi hat ?_
      rw [hrebuild, sp.i]
      rw [show L1.map Lf.en ++ (y0 :: Nt).map Lf.en ++ L2.map Lf.en = (L1 ++ (y0 :: Nt) ++ L2).map Lf.en by simp]
      exact hm
    rw [hat3]
    obtain ⟨s', g1, g2, g3, g4, g5⟩ := two_rest (U := U) (ls := L1 ++ (y0 :: Nt) ++ L2) (kvs := []) hok1 (by rw [hF]; exact hSr) (by rw [hF]; exact hEn) hf1 (fun y hy => by
      rcases List.mem_append.1 hy with hy | hy
      · rcases List.mem_append.1 hy with hy | hy
        · rw [hc2 y (.inl hy)]; exact t.c y (by rw [sp.e]; simp [hy])
        · exact hc1 y hy
      · rw [hc2 y (.inr hy)]; exact t.c y (by rw [sp.e]; simp [hy])) hlen hall (fun y hy => by
      cases L1 with
      | nil =>
        have : (y0 :: Nt).head? = some y := by simpa using hy
        rw [hh1 y this]
        exact t.h x (by rw [sp.e]; rfl)
      | cons a L1 =>
        have : a = y := by simpa using hy
        rw [← this]
        exact t.h a (by rw [sp.e]; rfl)) hord (fun y hy => by
      rcases List.mem_append.1 hy with hy | hy
      · rcases List.mem_append.1 hy with hy | hy
        · exact t.w y (by rw [sp.e]; simp [hy])
        · exact hlw y hy
      · exact t.w y (by rw [sp.e]; simp [hy])) hbound hw1 (by omega) hN2
    rw [hF] at g2
    exact ⟨s', fr1, _, g1, g2, by omega, g5, hfre⟩
  have hxlw := t.w x hxm
  have hL2 : ∀ b ∈ L2, lexB x.low b.low = true ∧ ∀ e ∈ insL key val x.es, lexB e.k b.low = true := fun b hb => by
    have h1 := t.o.s1; have h3 := t.o.s3
    rw [sp.e, List.pairwise_append, List.pairwise_cons] at h1 h3
    refine ⟨h1.2.1.1 b hb, fun e he => ?_⟩
    rcases ins_mem hsx he with rfl | he
    · exact sp.k2 b hb
    · exact h3.2.1.1 b hb e he
  have hlowI : ∀ e ∈ insL key val x.es, lexB e.k x.low = false := fun e he => by
    rcases ins_mem hsx he with rfl | he
    · exact sp.k1
    · exact t.o.s2 x hxm e he
  have hat2 : atS M N (putF key val) key 2 s x.en.pg x.en.k = writeS N s x.pg x.low ⟨true, insL key val x.es⟩ := by
    rw [show x.en.pg = x.pg from rfl, show x.en.k = x.low from rfl, at_leaf hrx, putF_eq]
  by_cases hcap : (insL key val x.es).length ≤ U.cap
  · rw [leaf_one hee hes hcap hxN] at hat2
    let x' : Lf := ⟨x.low, x.pg, insL key val x.es⟩
    refine fin [x'] _ fr (by simp) hat2 rfl (upd_ok hok (leaf_ok hee hes hcap)) ?_ ?_ ?_ ?_ ?_ ?_ ?_ ?_ ?_ ?_ (by show s.w + 1 ≤ 20; omega) (Nat.le_add_right _ _) (fun e => e) ?_
    · have : (L1 ++ [x'] ++ L2).map (·.pg) = ls.map (·.pg) := by rw [sp.e]; simp [x']
      rw [this]
      exact hf.put (hf.notin (by simp; exact .inr ⟨x, hxm, rfl⟩))
    · intro y hy
      simp only [List.mem_singleton] at hy; subst hy
      exact upd_at
    · intro y hy
      exact upd_ne (hxne y hy)
    · intro y hy
      simp only [List.mem_singleton] at hy; subst hy
      exact ⟨by show U.lo ≤ (insL key val x.es).length; omega, hcap⟩
    · intro y hy; cases hy; rfl
    · refine ⟨List.pairwise_singleton _ _, fun y hy e he => ?_, List.pairwise_singleton _ _⟩
      simp only [List.mem_singleton] at hy; subst hy
      exact hlowI e he
    · intro y hy
      simp only [List.mem_singleton] at hy; subst hy
      exact .inl rfl
    · intro y hy b hb
      simp only [List.mem_singleton] at hy; subst hy
      exact hL2 b hb
    · intro y hy
      simp only [List.mem_singleton] at hy; subst hy
      exact hxlw
    · simp [x']
    · intro y hy e he
      simp only [List.mem_singleton] at hy; subst hy
      exact hee e he
  · have hcap : (insL key val x.es).length = U.cap + 1 := by omega
    obtain ⟨o, s1, fr1, ht, a1, a2, a3, a4, a5, a6, hf1, a7, _, a9⟩ := hf.take (N := N) (by omega)
    obtain ⟨e5, h5m, h5h, hw2⟩ := leaf_two (low := x.low) hee hes hcap hxN a6 ht
    rw [hw2] at hat2
    generalize hE : insL key val x.es = E at *
    obtain ⟨p1, p2, p3⟩ := srt_parts (i := U.lo) hes
    obtain ⟨q1, q2⟩ := head_le hes h5h
    have hox : o ≠ x.pg := fun e => a4 (by rw [e]; simp; exact .inr ⟨x, hxm, rfl⟩)
    have hoy : ∀ y ∈ ls, y.pg ≠ o := fun y hy e => a4 (by rw [← e]; simp; exact .inr ⟨y, hy, rfl⟩)
    have hor : o ≠ s.root := fun e => a4 (by rw [e]; simp)
    have h5E : e5 ∈ E := List.mem_of_mem_drop h5m
    have hx5 : lexB x.low e5.k = true := by
      have hpos : 0 < (E.take U.lo).length := by rw [List.length_take]; omega
      have ha := q1 (E.take U.lo)[0] (List.getElem_mem _)
      have hb := hlowI (E.take U.lo)[0] (List.mem_of_mem_take (List.getElem_mem _))
      by_cases e : (E.take U.lo)[0].k = x.low
      · rw [← e]; exact ha
      · exact lexB_trans _ _ _ (lexB_total hb e) ha
    have ok1 : NdOk ⟨true, E.take U.lo⟩ := leaf_ok (U := U) (fun e hm => hee e (List.mem_of_mem_take hm)) p1 (by rw [List.length_take]; omega)
    have ok2 : NdOk ⟨true, E.drop U.lo⟩ := leaf_ok (U := U) (fun e hm => hee e (List.mem_of_mem_drop hm)) p2 (by rw [List.length_drop]; omega)
    let x1 : Lf := ⟨x.low, x.pg, E.take U.lo⟩
    let x2 : Lf := ⟨e5.k, o, E.drop U.lo⟩
    have hx1 : x1 = ⟨x.low, x.pg, E.take U.lo⟩ := rfl
    have hx2 : x2 = ⟨e5.k, o, E.drop U.lo⟩ := rfl
    have two : ∀ {P : Lf → Prop}, P x1 → P x2 → ∀ y ∈ [x1, x2], P y := fun h1 h2 y hy => by
      simp only [List.mem_cons, List.not_mem_nil, or_false] at hy
      rcases hy with rfl | rfl
      · exact h1
      · exact h2
    refine fin [x1, x2] _ fr1 (by simp) hat2 a2 ?_ ?_ ?_ ?_ ?_ ?_ ?_ ?_ ?_ ?_ ?_ (by show s1.w + 2 ≤ 20; omega) a7 a9 ?_
    · show ∀ p, p < N → (upd (upd s1.cc x.pg _) o _ p).Ok
      rw [a1]; exact upd_ok (upd_ok hok ok1) ok2
    · have hp : (o :: s.root :: ls.map (·.pg)).Perm (s1.root :: (L1 ++ [x1, x2] ++ L2).map (·.pg)) := by
        rw [a2, sp.e]
        refine (List.Perm.swap _ _ _).trans (List.Perm.cons _ ?_)
        simp only [List.map_append, List.map_cons, List.map_nil, List.append_assoc, List.cons_append, List.nil_append]
        show (o :: (L1.map (·.pg) ++ x.pg :: L2.map (·.pg))).Perm (L1.map (·.pg) ++ x.pg :: o :: L2.map (·.pg))
        refine List.Perm.trans ?_ (List.Perm.append_left _ (List.Perm.swap _ _ _))
        exact List.perm_middle.symm
      have hf2 := hf1.perm hp
      have hno : o ∉ fr1 := hf1.notin (by simp)
      have hnx : x.pg ∉ fr1 := hf1.notin (by simp; exact .inr (.inr ⟨x, hxm, rfl⟩))
      exact ⟨(hf2.c.upd hnx).upd hno, hf2.d, hf2.m, hf2.n⟩
    · refine two ?_ ?_
      · show upd (upd s1.cc x.pg _) o _ x.pg = _
        rw [upd_ne (fun e => hox e.symm), upd_at]
      · exact upd_at
    · intro y hy
      show upd (upd s1.cc x.pg _) o _ y.pg = _
      have hym : y ∈ ls := by rw [sp.e]; rcases hy with hy | hy <;> simp [hy]
      rw [upd_ne (hoy y hym), upd_ne (hxne y hy), a1]
    · refine two ?_ ?_
      · show U.lo ≤ (E.take U.lo).length ∧ (E.take U.lo).length ≤ U.cap
        rw [List.length_take]; omega
      · show U.lo ≤ (E.drop U.lo).length ∧ (E.drop U.lo).length ≤ U.cap
        rw [List.length_drop]; omega
    · intro y hy; cases hy; rfl
    · refine ⟨List.pairwise_pair.2 hx5, two ?_ ?_, List.pairwise_pair.2 fun e he => q1 e he⟩
      · exact fun e he => hlowI e (List.mem_of_mem_take he)
      · exact fun e he => q2 e he
    · exact two (.inl rfl) (.inr hx5)
    · refine two (P := fun y => ∀ b ∈ L2, lexB y.low b.low = true ∧ ∀ e ∈ y.es, lexB e.k b.low = true) ?_ ?_
      · exact fun b hb => ⟨(hL2 b hb).1, fun e he => (hL2 b hb).2 e (List.mem_of_mem_take he)⟩
      · exact fun b hb => ⟨(hL2 b hb).2 e5 h5E, fun e he => (hL2 b hb).2 e (List.mem_of_mem_drop he)⟩
    · refine two hxlw ?_
      show e5.k.length ≤ U.kl
      rw [(hee e5 h5E).k]; exact Nat.le_refl _
    · show [x1, x2].flatMap (·.es) = E
      simp [x1, x2]
    · exact two (P := fun y => ∀ e ∈ y.es, EnU U e) (fun e he => hee e (List.mem_of_mem_take he)) (fun e he => hee e (List.mem_of_mem_drop he))
/-- A key is put. -/
theorem put_ok {M : Nat → St → Nd → Nat → Option (Nd × St)} (hM : MendEasy M) {U : Uz} {N : Nat} {s : St} {kvs : List En} {fr used : List Nat} {key val : Bs} (ti : TInv U N s kvs fr used) (hw : s.w = 0) (hk : key.length = U.kl) (hv : val.length = U.vl) (hN : s.fresh + 3 < N) (hN2 : N ≤ 60000)
    (hT : (insL key val kvs).length / U.lo * (U.kl + 3) ≤ 253) (hT2 : 2 * (U.kl + 3) ≤ 253) :
    ∃ s' fr' used', doS M N (putF key val) key s = some s' ∧ TInv U N s' (insL key val kvs) fr' used' ∧ s'.fresh ≤ s.fresh + 3 ∧ s'.root ≠ 0 ∧ (fr = [] → fr' = []) := by
  unfold doS
  have hl3 := U.l3
  rcases ti.sh with ⟨a, b, c⟩ | ⟨a, b, c, d⟩ | ⟨ls, t, hus, hkv⟩
  · subst b; subst c
    obtain ⟨o, s1, fr1, ht, a1, a2, a3, a4, a5, a6, hf1, a7, _, a9⟩ := ti.f.take (N := N) (by omega)
    have ok0 : NdOk ⟨true, []⟩ := ⟨fun e h => by simp at h, List.Pairwise.nil, by simp [Nd.bytes]⟩
    have hst : startS N s = some ⟨o, s1.free, s1.fresh, s1.w + 1, upd s1.cc o (.node ⟨true, []⟩)⟩ := by
      unfold startS
      rw [if_pos a, ht]
      exact putS_eq (s := { s1 with root := o }) (y := .node ⟨true, []⟩) a6 ok0
    rw [hst]
    simp only [Option.bind_some]
    obtain ⟨s', fr', used', g1, g2, g3, g4, g5⟩ := put_leaf_root (M := M) (U := U) (N := N) (s := ⟨o, s1.free, s1.fresh, s1.w + 1, upd s1.cc o (.node ⟨true, []⟩)⟩) (kvs := []) (fr := fr1) (key := key) (val := val) (by
      show ∀ p, p < N → (upd s1.cc o _ p).Ok
      rw [a1]; exact upd_ok ti.ok ok0) ti.srt ti.en (hf1.put (hf1.notin (by simp))) (by show o ≠ 0; omega) upd_at (by simp) (by show s1.w + 1 ≤ 10; omega) hk hv (by show s1.fresh + 2 < N; omega) hN2 hT2
    exact ⟨s', fr', used', g1, g2, by have : s'.fresh ≤ s1.fresh + 2 := g3; omega, g4, fun e => g5 (a9 e)⟩
  · subst d
    have hst : startS N s = some s := by unfold startS; rw [if_neg a]
    rw [hst]
    simp only [Option.bind_some]
    obtain ⟨s', fr', used', g1, g2, g3, g4, g5⟩ := put_leaf_root (M := M) ti.ok ti.srt ti.en ti.f a b c (by omega) hk hv (by omega) hN2 hT2
    exact ⟨s', fr', used', g1, g2, by omega, g4, g5⟩
  · subst hus; subst hkv
    have hr : s.root ≠ 0 := by have := (ti.f.m s.root (by simp)).1; omega
    have hst : startS N s = some s := by unfold startS; rw [if_neg hr]
    rw [hst]
    simp only [Option.bind_some]
    obtain ⟨s', fr', used', g1, g2, g3, g4, g5⟩ := put_two hM ti.ok ti.srt ti.en ti.f t (by omega) hk hv (by omega) hN2 hT
    exact ⟨s', fr', used', g1, g2, by omega, g4, g5⟩
end Go.Proofs.YtfaeklinhchidaaGreat

/-
  What a tree tells: a key's value, all pairs, how its pages lie. No program in sight.
-/
set_option linter.all false
set_option maxRecDepth 100000
namespace Go.Proofs.YtfaeklinhchidaaGreat
open Go Hold
theorem leaf_find {es : List En} {e : En} (h : Srt es) (hm : e ∈ es) : (findP ⟨true, es⟩ e.k).2 = true ∧ es[(findP ⟨true, es⟩ e.k).1]? = some e := by
  have cu := srt_cut (key := e.k) h
  unfold findP
  simp only [Bool.not_true, Bool.false_and, Bool.false_eq_true, if_false]
  refine ⟨List.any_eq_true.2 ⟨e, hm, by simp⟩, ?_⟩
  generalize es.countP (fun x => lexB x.k e.k) = i at *
  obtain ⟨m, hm2, rfl⟩ := List.getElem_of_mem hm
  have h1 : ¬ m < i := fun hlt => by
    have := cu.a m hm2 hlt
    rw [lexB_irrefl] at this; cases this
  have h2 : m = i := by
    refine Classical.byContradiction fun hne => ?_
    have h3 := srt_lt h (show i < m by omega) hm2
    rw [cu.b i (by omega) (Nat.le_refl _)] at h3; cases h3
  rw [← h2, List.getElem?_eq_getElem hm2]
theorem get_ok {U : Uz} {N : Nat} {s : St} {kvs : List En} {fr used : List Nat} (ti : TInv U N s kvs fr used) {e : En} (he : e ∈ kvs) : ∃ n i, leafS N s e.k 3 s.root = some (n, i, true) ∧ n.l[i]? = some e := by
  have hfN := ti.fN
  rcases ti.sh with ⟨a, b, c⟩ | ⟨a, b, c, d⟩ | ⟨ls, t, hus, hkv⟩
  · rw [b] at he; simp at he
  · have hr := ti.f.m s.root (by rw [d]; simp)
    obtain ⟨h1, h2⟩ := leaf_find ti.srt he
    refine ⟨⟨true, kvs⟩, (findP ⟨true, kvs⟩ e.k).1, ?_, h2⟩
    unfold leafS
    rw [if_neg a, readS_eq (by omega) b]
    simp only [Option.bind_some, if_true]
    rw [show findP ⟨true, kvs⟩ e.k = ((findP ⟨true, kvs⟩ e.k).1, true) from Prod.ext rfl h1]
  · subst hus; subst hkv
    have hr := ti.f.m s.root (by simp)
    obtain ⟨L1, x, L2, sp⟩ := spot_of (key := e.k) t.o t.h (fun e => by have := t.n; rw [e] at this; simp at this)
    have hxm : x ∈ ls := by rw [sp.e]; simp
    have hxp := ti.f.m x.pg (by simp; exact .inr (.inl ⟨x, hxm, rfl⟩))
    have hfl : ls.flatMap (·.es) = L1.flatMap (·.es) ++ x.es ++ L2.flatMap (·.es) := by rw [sp.e]; simp
    have hsx : Srt x.es := by have := ti.srt; rw [hfl] at this; exact (List.pairwise_append.1 (List.pairwise_append.1 this).1).2.1
    have hex : e ∈ x.es := by
      rw [hfl] at he
      rcases List.mem_append.1 he with he | he
      · rcases List.mem_append.1 he with he | he
        · have := sp.a e he; rw [lexB_irrefl] at this; cases this
        · exact he
      · have := sp.b e he; rw [lexB_irrefl] at this; cases this
    obtain ⟨h1, h2⟩ := leaf_find hsx hex
    refine ⟨⟨true, x.es⟩, (findP ⟨true, x.es⟩ e.k).1, ?_, h2⟩
    have hgi : (ls.map Lf.en)[(findP ⟨false, ls.map Lf.en⟩ e.k).1]? = some x.en := by
      rw [sp.i, sp.e, List.map_append, List.getElem?_append_right (by simp)]; simp
    rw [leafS, if_neg (by omega), readS_eq (by omega) t.r]
    simp only [Option.bind_some, Bool.false_eq_true, if_false]
    rw [hgi]
    simp only [Option.bind_some]
    rw [leafS, if_neg (by show ¬ x.pg = 0; omega), readS_eq (show x.en.pg < N by show x.pg < N; omega) (t.c x hxm)]
    simp only [Option.bind_some, if_true]
    rw [show findP ⟨true, x.es⟩ e.k = ((findP ⟨true, x.es⟩ e.k).1, true) from Prod.ext rfl h1]
theorem find_nil (n : Nd) : (findP n []).1 = 0 := by
  unfold findP
  have : n.l.countP (fun e => lexB e.k []) = 0 := List.countP_eq_zero.2 fun x _ => by cases x.k <;> simp [lexB]
  simp only [this]
  split <;> rfl
theorem kids_pairs {N : Nat} {s : St} : ∀ {ls : List Lf}, (∀ x ∈ ls, x.pg < N ∧ s.cc x.pg = .node ⟨true, x.es⟩) → pairsKids (pairsS N s 2) (ls.map Lf.en) = some (ls.flatMap (·.es), ls.length)
  | [], _ => rfl
  | x :: ls, h => by
    have ih := kids_pairs (ls := ls) fun y hy => h y (List.mem_cons_of_mem _ hy)
    obtain ⟨h1, h2⟩ := h x (by simp)
    have hx : pairsS N s 2 x.en.pg = some (x.es, 1) := by
      rw [pairsS, readS_eq (show x.en.pg < N from h1) h2]
      simp only [Option.bind_some]
      rw [if_pos (find_nil _)]
      simp
    rw [List.map_cons, pairsKids, hx]
    simp only [Option.bind_some]
    rw [ih]
    simp [Nat.add_comm]
theorem scan_ok {U : Uz} {N : Nat} {s : St} {kvs : List En} {fr used : List Nat} (ti : TInv U N s kvs fr used) : ∃ cnt, cnt ≤ used.length ∧ ((s.root = 0 ∧ kvs = [] ∧ cnt = 0) ∨ (s.root ≠ 0 ∧ pairsS N s 3 s.root = some (kvs, cnt))) := by
  have hfN := ti.fN
  rcases ti.sh with ⟨a, b, c⟩ | ⟨a, b, c, d⟩ | ⟨ls, t, hus, hkv⟩
  · exact ⟨0, Nat.zero_le _, .inl ⟨a, b, rfl⟩⟩
  · have hr := ti.f.m s.root (by rw [d]; simp)
    refine ⟨1, by rw [d]; simp, .inr ⟨a, ?_⟩⟩
    rw [pairsS, readS_eq (by omega) b]
    simp only [Option.bind_some]
    rw [if_pos (find_nil _)]
    simp
  · subst hus; subst hkv
    have hr := ti.f.m s.root (by simp)
    refine ⟨ls.length + 1, by simp, .inr ⟨by omega, ?_⟩⟩
    rw [pairsS, readS_eq (by omega) t.r]
    simp only [Option.bind_some]
    rw [if_pos (find_nil _), if_neg (by simp), kids_pairs (fun x hx => ⟨by have := ti.f.m x.pg (by simp; exact .inr (.inl ⟨x, hx, rfl⟩)); omega, t.c x hx⟩)]
    rfl
def lastOf (es : List En) (last : Option Bs) : Option Bs := match es.getLast? with
  | some e => some e.k
  | none => last
theorem lastOf_cons (e : En) (l : List En) (last : Option Bs) : lastOf (e :: l) last = lastOf l (some e.k) := by
  unfold lastOf
  cases l with
  | nil => rfl
  | cons y l =>
    rw [List.getLast?_cons_cons]
    cases h : (y :: l).getLast? with
    | none => simp at h
    | some z => rfl
theorem lastOf_app {l m : List En} {last : Option Bs} : lastOf (l ++ m) last = lastOf m (lastOf l last) := by
  induction l generalizing last with
  | nil => rfl
  | cons e l ih => rw [List.cons_append, lastOf_cons, lastOf_cons, ih]
theorem look_leaf_ok : ∀ {es : List En} {last : Option Bs}, Srt es → (∀ e ∈ es, e.k ≠ []) → (∀ e ∈ es, ahead last e.k = true) → lookLeaf es last = some (lastOf es last)
  | [], last, _, _, _ => rfl
  | e :: l, last, hs, hk, ha => by
    rw [lookLeaf_cons, if_pos ⟨hk e (by simp), ha e (by simp)⟩, lastOf_cons]
    exact look_leaf_ok (List.pairwise_cons.1 hs).2 (fun x hx => hk x (List.mem_cons_of_mem _ hx)) (fun x hx => (List.pairwise_cons.1 hs).1 x hx)
theorem ahead_last {es m : List En} {last : Option Bs} (h : Srt (es ++ m)) (ha : ∀ e ∈ es ++ m, ahead last e.k = true) : ∀ e ∈ m, ahead (lastOf es last) e.k = true := by
  intro e he
  unfold lastOf
  cases hl : es.getLast? with
  | none => exact ha e (List.mem_append_right _ he)
  | some z => exact (List.pairwise_append.1 h).2.2 z (List.mem_of_getLast? hl) e he
theorem look_kids_ok {U : Uz} {N root fresh : Nat} {cc : Nat → PgC} : ∀ {ls : List Lf} {first : Bool} {high : Nat} {acc : Acc}, (∀ x ∈ ls, 1 ≤ x.pg ∧ x.pg < fresh ∧ x.pg < N ∧ x.pg ≠ root ∧ cc x.pg = .node ⟨true, x.es⟩ ∧ U.lo ≤ x.es.length) → (acc.1 ++ ls.map (·.pg)).Nodup → Srt (ls.flatMap (·.es)) → (∀ e ∈ ls.flatMap (·.es), EnU U e) → 1 ≤ U.kl →
    (∀ e ∈ ls.flatMap (·.es), ahead acc.2 e.k = true) → (first = true ∨ high = 1) →
    ∃ h, lookKids (lookS N root fresh cc 2) (ls.map Lf.en) first high acc = some (h, (acc.1 ++ ls.map (·.pg), lastOf (ls.flatMap (·.es)) acc.2))
  | [], first, high, acc, _, _, _, _, _, _, _ => ⟨high, by simp [lookKids, lastOf]⟩
  | x :: ls, first, high, acc, hx, hnd, hs, he, hk, ha, hf => by
    obtain ⟨h1, h2, h3, h4, h5, h6⟩ := hx x (by simp)
    rw [List.flatMap_cons] at hs he ha
    have hsx := (List.pairwise_append.1 hs).1
    have hnin : x.pg ∉ acc.1 := fun hm => (List.nodup_append.1 hnd).2.2 x.pg hm x.pg (by simp) rfl
    have hrich := leaf_rich (U := U) (es := x.es) (fun e hm => he e (List.mem_append_left _ hm)) h6
    have hlk : lookS N root fresh cc 2 x.en.pg acc = some (1, (acc.1 ++ [x.pg], lastOf x.es acc.2)) := by
      show lookS N root fresh cc 2 x.pg acc = _
      rw [lookS, if_pos ⟨h1, h2, h3, hnin⟩, h5]
      simp only
      rw [if_neg (by rw [hrich]; simp)]
      simp only [if_true]
      rw [look_leaf_ok hsx (fun e hm e0 => by have := (he e (List.mem_append_left _ hm)).k; rw [e0] at this; simp at this; omega) (fun e hm => ha e (List.mem_append_left _ hm))]
      rfl
    have hnd2 : ((acc.1 ++ [x.pg]) ++ ls.map (·.pg)).Nodup := by rw [List.append_assoc]; simpa using hnd
    obtain ⟨h, ih⟩ := look_kids_ok (U := U) (N := N) (root := root) (fresh := fresh) (cc := cc) (ls := ls) (first := false) (high := 1) (acc := (acc.1 ++ [x.pg], lastOf x.es acc.2)) (fun y hy => hx y (List.mem_cons_of_mem _ hy)) hnd2 (List.pairwise_append.1 hs).2.1 (fun e hm => he e (List.mem_append_right _ hm)) hk (ahead_last hs ha) (.inr rfl)
    refine ⟨h, ?_⟩
    rw [List.map_cons, lookKids, hlk]
    simp only [Option.bind_some]
    rw [if_neg (by
      rcases hf with hf | hf
      · rw [hf]; simp
      · rw [hf]; simp), ih, List.flatMap_cons, lastOf_app]
    simp
/-- How the pages lie. -/
theorem check_ok {U : Uz} {N : Nat} {s : St} {kvs : List En} {fr used : List Nat} (ti : TInv U N s kvs fr used) (hk : 1 ≤ U.kl) : (s.root = 0 ∧ used = []) ∨ (s.root ≠ 0 ∧ ∃ high last, lookS N s.root s.fresh s.cc 3 s.root ([], none) = some (high, (used, last))) := by
  have hfN := ti.fN
  rcases ti.sh with ⟨a, b, c⟩ | ⟨a, b, c, d⟩ | ⟨ls, t, hus, hkv⟩
  · exact .inl ⟨a, c⟩
  · have hr := ti.f.m s.root (by rw [d]; simp)
    refine .inr ⟨a, 1, lastOf kvs none, ?_⟩
    rw [lookS, if_pos ⟨hr.1, hr.2, by omega, by simp⟩, b]
    simp only
    rw [if_neg (by simp)]
    simp only [if_true]
    rw [look_leaf_ok ti.srt (fun e hm e0 => by have := (ti.en e hm).k; rw [e0] at this; simp at this; omega) (fun e _ => rfl), d]
    rfl
  · subst hus; subst hkv
    have hr := ti.f.m s.root (by simp)
    have hnd := ti.f.d
    rw [List.cons_append, List.nodup_cons] at hnd
    obtain ⟨h, hlk⟩ := look_kids_ok (U := U) (N := N) (root := s.root) (fresh := s.fresh) (cc := s.cc) (ls := ls) (first := true) (high := 0) (acc := ([s.root], none)) (fun x hx => by
      have := ti.f.m x.pg (by simp; exact .inr (.inl ⟨x, hx, rfl⟩))
      exact ⟨this.1, this.2, by omega, fun e => hnd.1 (List.mem_append_left _ (by rw [← e]; exact List.mem_map_of_mem hx)), t.c x hx, (t.l x hx).1⟩) (by
      refine List.nodup_cons.2 ⟨fun hm => hnd.1 (List.mem_append_left _ hm), (List.nodup_append.1 hnd.2).1⟩) ti.srt ti.en hk (fun e _ => rfl) (.inl rfl)
    refine .inr ⟨by omega, h + 1, lastOf (ls.flatMap (·.es)) none, ?_⟩
    rw [lookS, if_pos ⟨hr.1, hr.2, by omega, by simp⟩, t.r]
    simp only
    rw [if_neg (by simp)]
    simp only [Bool.false_eq_true, if_false, List.nil_append]
    rw [hlk]
    rfl
end Go.Proofs.YtfaeklinhchidaaGreat

/-
  A slice of slices of bytes, opened: each row's length is bounded.
-/
set_option linter.all false
set_option maxRecDepth 100000
namespace Go.Proofs.YtfaeklinhchidaaGreat
open Go Hold Go.ChangeShapes Go.WideShapes Go.RowKit Go.Deep
section
variable {W : World} {H : Type} {enc : TypeId × Value → H} {r : Reach} {b0 : Nat} {v : Value} {d : DataW H} {p : List MemPlace}
theorem open_elemsS {P : Program} {α : Type} {cells : α → List Value} {k : Nat} {t e : TypeId} (ht : P.underlying t = some (.slice e)) (hce : P.cellsOf e = k) (hk : 0 < k) (hc : ∀ x, (cells x).length = k)
    (hel : ∀ {n : Nat} {cs : List Value} {D : DataW H × List MemPlace}, DataW.trod enc P W 0 (fun _ => true) true n e cs = some D → (∀ m ∈ D.1.weights P e, m ≤ 140737488351232) → ∃ x, cs = cells x)
    (hv : Value.okWide P W r b0 t v) (h : DataW.Trod enc P W 0 (fun _ => true) true t v d p) (hw : ∀ m ∈ d.weights P t, m ≤ 140737488351232) : ∃ l : List α, Rds (old W) v l.length (l.flatMap cells) ∧ l.length ≤ 9223372036854775807 := by
  obtain ⟨a, len, cap, rfl⟩ := okWide_slice ht hv
  obtain ⟨fuel, hf⟩ := h
  rcases open_slice ht hf with ⟨e, _⟩ | ⟨a', len', cap', m, n, D, Pl, e, _, hlc, hcm, hm, hd, hall⟩
  · simp [Value.cells] at e
    obtain ⟨rfl, rfl, rfl⟩ := e
    exact ⟨[], rds_old ⟨none, 0, rfl, Nat.le_refl _, .inl rfl⟩, by simp⟩
  · simp [Value.cells] at e
    obtain ⟨rfl, rfl, rfl⟩ := e
    simp only [if_true] at hm
    subst hm
    simp only [Prod.mk.injEq] at hd
    obtain ⟨rfl, _⟩ := hd
    have key : ∀ q, q ≤ len → ∃ l : List α, l.length = q ∧ ∀ i x, l[i]? = some x → W.cells? 0 (a'.add (i * k)) k = some (cells x) := by
      intro q
      induction q with
      | zero => exact fun _ => ⟨[], rfl, fun i x h => by simp at h⟩
      | succ q ih =>
        intro hq
        obtain ⟨l, hl, hx⟩ := ih (by omega)
        obtain ⟨cs', h1, h2⟩ := hall q (by omega)
        rw [hce] at h1
        obtain ⟨x, rfl⟩ := hel h2 fun m hm => by
          refine hw m ?_
          simp only [DataW.weights, ht]
          exact List.mem_cons_of_mem _ (List.mem_append_left _ (weightsAll_mem (d := D q) (List.mem_map.2 ⟨q, by simp; omega, rfl⟩) _ hm))
        refine ⟨l ++ [x], by simp [hl], fun i y hi => ?_⟩
        by_cases hiq : i < q
        · rw [List.getElem?_append_left (by omega)] at hi
          exact hx i y hi
        · have hi2 := (List.getElem?_eq_some_iff.1 hi).1
          simp at hi2
          have hiq2 : i = q := by omega
          subst hiq2
          rw [List.getElem?_append_right (by omega), hl] at hi
          simp at hi
          subst hi
          exact h1
    obtain ⟨l, hl, hx⟩ := key len (Nat.le_refl _)
    refine ⟨l, ?_, by rw [hl]; simp only [maxLen] at hcm; omega⟩
    rw [hl]
    refine rds_old ⟨some a', _, rfl, hlc, win_of_cells fun j u hj => ?_⟩
    obtain ⟨x, h1, h2⟩ := fm_get hk hc hj
    obtain ⟨_, _, h3⟩ := World.cells?_some (hx _ x h1)
    have h4 := h3 (j % k) (Nat.mod_lt _ hk)
    rw [h2, Go.Deep.add_add, show j / k * k + j % k = j by rw [Nat.mul_comm]; exact Nat.div_add_mod j k] at h4
    exact h4
structure RowS (H : HP) (q : Value × Bs) : Prop where
  rd : Rds H q.1 q.2.length (q.2.map bv)
  len : q.2.length ≤ 140737488351232
theorem open_rowsS (hv : Value.okWide prog W r b0 36 v) (h : DataW.Trod enc prog W 0 (fun _ => true) true 36 v d p) (hw : ∀ n ∈ d.weights prog 36, n ≤ 140737488351232) :
    ∃ l : List (Value × Bs), Rds (old W) v l.length (l.map (·.1)) ∧ l.length ≤ 9223372036854775807 ∧ ∀ q ∈ l, RowS (old W) q := by
  obtain ⟨l, h1, h2⟩ := open_elemsS (t := 36) (e := 22) (k := 1) (cells := fun x : {q : Value × Bs // RowS (old W) q} => [x.1.1]) (by kernel_rfl) (by kernel_rfl) (by omega) (fun _ => rfl) (fun {n cs D} hd hwd => by
    obtain ⟨v, l, e1, g1, g2⟩ := elems_of (t := 22) (e := 5) (cells := fun b : UInt8 => [bv b]) (k := 1) (by kernel_rfl) (by kernel_rfl) (by omega) (fun _ => rfl) (fun {n cs D} hd => by
      obtain ⟨z, hz, _, hwf⟩ := DataW.trod_int (t := 5) (k := .u8) (by kernel_rfl) hd
      obtain ⟨b, hb⟩ := u8_wf hwf
      exact ⟨b, by rw [hz, hb]⟩) hd
    rw [fm_one bv] at g1
    refine ⟨⟨(v, l), ⟨g1, ?_⟩⟩, e1⟩
    have ht : prog.underlying 22 = some (.slice 5) := by kernel_rfl
    have hb1 : prog.bytesOf 5 = 1 := by kernel_rfl
    obtain ⟨a2, c2, e2, hc2, _⟩ := g1 _ W (sat.start W)
    rw [e1] at hd
    rcases open_ints (k := .u8) ht (by kernel_rfl) (by kernel_rfl) hd with ⟨e, _⟩ | ⟨a', len', cap', zs, e, _, hlc, hcm, hz, hdd, hx, hwf⟩
    · simp at e
      rw [e] at e2
      simp at e2
      show l.length ≤ 140737488351232
      omega
    · simp at e
      rw [e2] at e
      simp at e
      obtain ⟨rfl, rfl, rfl⟩ := e
      rw [hdd] at hwd
      simp at hz
      have := hwd ((lits (H := H) .u8 (zs.take l.length)).length + (lits (H := H) .u8 (zs.drop l.length)).length) (by simp [DataW.weights, ht, hb1])
      simp [lits] at this
      show l.length ≤ 140737488351232
      omega) hv h hw
  refine ⟨l.map (·.1), ?_, by simpa using h2, ?_⟩
  · rw [List.length_map, List.map_map]
    rw [fm_one (fun x : {q : Value × Bs // RowS (old W) q} => x.1.1)] at h1
    exact h1
  · intro q hq
    obtain ⟨y, _, rfl⟩ := List.mem_map.1 hq
    exact y.2
end
end Go.Proofs.YtfaeklinhchidaaGreat

/-
  Keys that are hashes: what the tree holds behind so many rows. No program in sight.
-/
set_option linter.all false
set_option maxRecDepth 100000
namespace Go.Proofs.YtfaeklinhchidaaGreat
open Go Hold
theorem halfGo_alike {one : En → Nat} {c all : Nat} : ∀ {l : List En}, (∀ e ∈ l, one e = c) → ∀ i s best at_ : Nat, halfGo all one l i s best at_ = halfGo all (fun _ => c) l i s best at_
  | [], _, i, s, best, at_ => rfl
  | e :: l, h, i, s, best, at_ => by
    unfold halfGo
    rw [h e (by simp)]
    rw [halfGo_alike (fun x hx => h x (List.mem_cons_of_mem _ hx)), halfGo_alike (fun x hx => h x (List.mem_cons_of_mem _ hx))]
theorem half_alike {es : List En} {kl vl : Nat} (h : ∀ e ∈ es, e.k.length = kl ∧ e.v.length = vl) : halfP ⟨true, es⟩ = halfGo (es.length * (kl + vl + 2)) (fun _ => kl + vl + 2) es.dropLast 0 0 506 1 := by
  have h1 : ∀ e ∈ es, (⟨true, es⟩ : Nd).one e = kl + vl + 2 := fun e he => by
    obtain ⟨a, b⟩ := h e he
    unfold Nd.one
    simp only [if_true, a, b]
    try omega
  unfold halfP
  rw [halfGo_alike (c := kl + vl + 2) (fun e he => h1 e (List.dropLast_subset _ he))]
  congr 1
  unfold Nd.bytes
  have : es.map (⟨true, es⟩ : Nd).one = es.map fun _ => kl + vl + 2 := List.map_congr_left h1
  show (es.map (⟨true, es⟩ : Nd).one).sum = _
  rw [this, List.map_const', List.sum_replicate_nat]
def UH : Uz where
  kl := 32
  vl := 1
  cap := 7
  lo := 4
  z1 := by omega
  z2 := by omega
  z3 := by omega
  l1 := by omega
  l2 := by omega
  l3 := by omega
  k1 := by omega
  v1 := by omega
  hf := fun es hl he => by
    rw [half_alike he, hl]
    match es, hl with
    | [a, b, c, d, e, f, g, h], _ => rfl
theorem TInv.re {U : Uz} {N : Nat} {s : St} {kvs : List En} {fr used : List Nat} (ti : TInv U N s kvs fr used) : TInv U N { s with w := 0 } kvs fr used := by
  refine ⟨ti.ok, ti.srt, ti.en, ti.f.re, ti.fN, ?_⟩
  rcases ti.sh with h | h | ⟨ls, t, h1, h2⟩
  · exact .inl h
  · exact .inr (.inl h)
  · exact .inr (.inr ⟨ls, ⟨t.r, t.c, t.n, t.l, t.h, t.o, t.w⟩, h1, h2⟩)
theorem TInv.start {U : Uz} {N : Nat} (hN : 2 ≤ N) : TInv U N s00 [] [] [] :=
  ⟨fun p hp => trivial, List.Pairwise.nil, fun e he => by simp at he, ⟨rfl, by simp, fun p hp => by simp at hp, rfl⟩, by show 1 ≤ N; omega, .inl ⟨rfl, rfl, rfl⟩⟩
structure Hs (l : List (Value × Bs)) (s : St) (kvs : List En) (used : List Nat) (i : Nat) : Prop where
  ti : TInv UH 89 s kvs [] used
  w : s.w = 0
  fr : s.fresh ≤ 1 + 3 * i
  len : kvs.length ≤ i
  all : ∀ j, j < i → ∀ r, l[j]? = some r → ∃ m x, j ≤ m ∧ m < i ∧ l[m]? = some x ∧ sha x.2 = sha r.2 ∧ (⟨sha r.2, [UInt8.ofNat m], 0⟩ : En) ∈ kvs
theorem Hs.start (l : List (Value × Bs)) : Hs l s00 [] [] 0 := ⟨TInv.start (by omega), rfl, by show 1 ≤ 1 + 3 * 0; omega, Nat.le_refl _, fun j hj => by omega⟩
theorem Hs.step {l : List (Value × Bs)} {s : St} {kvs : List En} {used : List Nat} {i : Nat} (h : Hs l s kvs used i) (hi : i < 25) {x : Value × Bs} (hx : l[i]? = some x) :
    ∃ s' kvs' used', doS mendE 89 (putF (sha x.2) [UInt8.ofNat i]) (sha x.2) s = some s' ∧ Hs l { s' with w := 0 } kvs' used' (i + 1) := by
  have hkl : (sha x.2).length = UH.kl := sha_length _
  obtain ⟨l1, l2, l3⟩ := ins_len (key := sha x.2) (val := [UInt8.ofNat i]) h.ti.srt
  have hfr := h.fr
  have hln := h.len
  obtain ⟨s', fr', used', hd, ti, hf, hr, he⟩ := put_ok mendE_easy h.ti h.w (key := sha x.2) (val := [UInt8.ofNat i]) hkl rfl (by omega) (by omega) (by
    show (insL (sha x.2) [UInt8.ofNat i] kvs).length / 4 * 35 ≤ 253
    omega) (by decide)
  have e0 := he rfl
  subst e0
  refine ⟨s', _, used', hd, ti.re, rfl, by show s'.fresh ≤ _; omega, by omega, fun j hj r hr => ?_⟩
  by_cases hk : sha r.2 = sha x.2
  · refine ⟨i, x, by omega, by omega, hx, hk.symm, ?_⟩
    rw [hk]
    exact ins_new h.ti.srt
  · have hji : j < i := by
      refine Classical.byContradiction fun hn => ?_
      have e1 : j = i := by omega
      rw [e1, hx] at hr
      cases hr
      exact hk rfl
    obtain ⟨m, y, a1, a2, a3, a4, a5⟩ := h.all j hji r hr
    exact ⟨m, y, a1, by omega, a3, a4, ins_old h.ti.srt a5 hk⟩
theorem checkOk_of {U : Uz} {N : Nat} {s : St} {kvs : List En} {fr used : List Nat} (ti : TInv U N s kvs fr used) (hk : 1 ≤ U.kl) : CheckOk N s used fr := by
  refine ⟨check_ok ti hk, ti.f.c, fun p hp => ?_, ti.f.d, ti.f.n, ti.fN⟩
  have := ti.f.m p (List.mem_append_right _ hp)
  exact ⟨by omega, this.2⟩
end Go.Proofs.YtfaeklinhchidaaGreat
