/-
  Slices of bytes and of numbers, as they are read and owned.
-/
import Derived.Test.YtmnaalpjhkkglaaGreatDoorVc
import Derived.Laws.IdiomStrings
import Derived.Lib.BufferRead
import Derived.Lib.AppendStr
import Derived.Laws.IdiomCopy
import Derived.Laws.CopyRow
import Derived.Stop.BytesEq
set_option linter.all false
namespace Hold
open Go

/-- A byte as the model has it. -/
def bv (b : UInt8) : Value := .int .u8 b.toNat
/-- A slice whose elements read so. -/
def RdS (J : Hp) (v : Value) (n : Nat) (xs : List Value) : Prop := ∃ a c, v = .slice a n c ∧ n ≤ c ∧ win J a xs
/-- A slice of bytes that reads so. -/
def Rd (J : Hp) (v : Value) (l : List UInt8) : Prop := RdS J v l.length (l.map bv)

theorem win.mono {J J' : Hp} (hJ : ∀ b o, J b = some o → J' b = some o) {a : Option Addr} {xs : List Value} (h : win J a xs) : win J' a xs := by
  rcases h with h | ⟨b, o, cs, e, fr, h1, h2, h3⟩
  · exact .inl h
  · exact .inr ⟨b, o, cs, e, fr, h1, hJ _ _ h2, h3⟩
theorem RdS.mono {J J' : Hp} (hJ : ∀ b o, J b = some o → J' b = some o) {v : Value} {n : Nat} {xs : List Value} (h : RdS J v n xs) : RdS J' v n xs :=
  let ⟨a, c, h1, h2, h3⟩ := h; ⟨a, c, h1, h2, h3.mono hJ⟩
/-- It stays so for ever. -/
def immS (v : Value) (n : Nat) (xs : List Value) : PP := ⟨fun I => RdS I v n xs, fun hI h => h.mono hI⟩

/-- Wherever H holds, the slice reads so. -/
def Rds (H : HP) (v : Value) (n : Nat) (xs : List Value) : Prop := ∀ (E : World0) (w : World), sat E w H → RdS (hp w) v n xs
theorem Rds.right {H X : HP} {v : Value} {n : Nat} {xs : List Value} (h : Rds H v n xs) : Rds (X * H) v n xs := fun E w hs => h E w hs.drop
theorem Rds.left {H X : HP} {v : Value} {n : Nat} {xs : List Value} (h : Rds H v n xs) : Rds (H * X) v n xs := fun E w hs => h E w hs.drop'
theorem Rds.shape {H : HP} {v : Value} {n : Nat} {xs : List Value} (h : Rds H v n xs) {E : World0} {w : World} (hs : sat E w H) : ∃ a c, v = .slice a n c ∧ n ≤ c ∧ Rds H (.slice a n c) n xs ∧ (a = none → xs = []) := by
  obtain ⟨a, c, rfl, hc, hw⟩ := h E w hs
  refine ⟨a, c, rfl, hc, h, ?_⟩
  rintro rfl
  rcases hw with hw | ⟨_, _, _, _, _, ha, _⟩
  · exact hw
  · cases ha
theorem Rds.win {H : HP} {a : Option Addr} {n c : Nat} {xs : List Value} (h : Rds H (.slice a n c) n xs) {E : World0} {w : World} (hs : sat E w H) : win (hp w) a xs := by
  obtain ⟨a', c', e, _, hw⟩ := h E w hs
  cases e
  exact hw
theorem Rds.pers {v : Value} {n : Nat} {xs : List Value} : Rds (pers (immS v n xs)) v n xs := fun E w hs => (hs.whole).pers_get

section
variable {P : Program} {E : World0} {w : World} {H R : HP} {K : Value → World → Prop}

theorem osl_rd {e n : Nat} {v : Value} {xs : List Value} {sz : Nat} (h : sat E w (osl e sz v n xs * R)) : RdS (hp w) v n xs := by
  rcases sat_osl.1 h with ⟨rfl, rfl, rfl, hR⟩ | ⟨b, cap, sp, rfl, h1, h2, h3, h4, hP⟩
  · exact ⟨none, 0, rfl, Nat.le_refl _, .inl rfl⟩
  · refine ⟨_, cap, rfl, h3, .inr ⟨b, 0, _, e, (0, 0), rfl, hP.pts_get, fun j v hj => ?_⟩⟩
    have hlt := (List.getElem?_eq_some_iff.1 hj).1
    simpa [List.getElem?_append_left hlt] using hj
theorem Rds.osl {e n : Nat} {v : Value} {xs : List Value} {sz : Nat} : Rds (osl e sz v n xs) v n xs := fun E w hs => osl_rd hs.whole
/-- What is owned may be let stay. -/
theorem osl_freeze {e n : Nat} {v : Value} {xs : List Value} {sz : Nat} (h : sat E w (osl e sz v n xs * R)) : sat E w (pers (immS v n xs) * R) := by
  rcases sat_osl.1 h with ⟨rfl, rfl, rfl, hR⟩ | ⟨b, cap, sp, rfl, h1, h2, h3, h4, hP⟩
  · exact hR.mono fun I h' hp' => (pers_star_p _ _ _ _).2 ⟨⟨none, 0, rfl, Nat.le_refl _, .inl rfl⟩, hp'⟩
  · refine (hP.freeze).pers_mono (ψ := immS _ n xs) fun I hI => ⟨_, cap, rfl, h3, .inr ⟨b, 0, _, e, (0, 0), rfl, hI, fun j v hj => ?_⟩⟩
    have hlt := (List.getElem?_eq_some_iff.1 hj).1
    simpa [List.getElem?_append_left hlt] using hj
theorem bv_one (l : List UInt8) : ∀ x ∈ l.map bv, x.oneCell' = true := by
  intro x hx
  obtain ⟨b, _, rfl⟩ := List.mem_map.1 hx
  rfl
theorem win_cell {xs : List Value} {a : Option Addr} (h : win (hp w) a xs) {j : Nat} (hj : j < xs.length) : ∃ b o, a = some ⟨b, o, none⟩ ∧ w.cell? ⟨b, o + j, none⟩ = some xs[j] := by
  rcases h with rfl | ⟨b, o, cs, e, fr, h1, h2, h3⟩
  · simp at hj
  · exact ⟨b, o, h1, cell_of h2 (h3 j _ (List.getElem?_eq_getElem hj))⟩
theorem i64_of {n : Int} (h0 : -9223372036854775808 ≤ n) (h1 : n ≤ 9223372036854775807) : IntKind.i64.wrap n = n := by
  rw [IntKind.wrap_i64]; omega
/-- An owned slice, opened: its block; what closes it again. -/
theorem osl_open {e n sz : Nat} {v : Value} {xs : List Value} (h : sat E w (osl e sz v n xs * R)) (hn : 0 < n) :
    ∃ b c sp, v = .slice (some ⟨b, 0, none⟩) n c ∧ xs.length = n * sz ∧ n ≤ c ∧ sat E w (pts b (.cells (xs ++ sp).toArray e (0, 0)) * R) ∧
      ∀ {w' : World} {R' : HP} {xs' : List Value}, xs'.length = xs.length → sat E w' (pts b (.cells (xs' ++ sp).toArray e (0, 0)) * R') → sat E w' (osl e sz v n xs' * R') := by
  rcases sat_osl.1 h with ⟨rfl, rfl, rfl, hR⟩ | ⟨b, cap, sp, rfl, h1, h2, h3, h4, hP⟩
  · omega
  · refine ⟨b, cap, sp, rfl, h1, h3, hP, fun {w' R' xs'} hl h' => sat_osl.2 (.inr ⟨b, cap, sp, rfl, by omega, ?_, h3, h4, h'⟩)⟩
    rw [List.length_append] at h2 ⊢; omega
/-- A store into an owned slice. -/
theorem osl_store (h : sat E w H) {t e n b c : Nat} {i : Nat} {xs : List Value} {u : Value} [OneC P t] [s : OwnS H (.slice (some ⟨b, 0, none⟩) n c) e 1 n xs R] (hi : i < n) (hu : u.oneCell' = true)
    (k : ∀ w', sat E w' (osl e 1 (.slice (some ⟨b, 0, none⟩) n c) n (xs.set i u) * R) → K undef w') :
    efu P (Instr.storeAt t (.pointer (some ⟨b, i, none⟩)) u) w K := by
  obtain ⟨b', c', sp, hv, hl, hc, hP, hcl⟩ := osl_open (h.perm s.eq) (by omega)
  cases hv
  refine store_sl hP hu (by simp; omega) fun w' h' => k w' (hcl (xs' := xs.set i u) (by simp) ?_)
  rwa [List.set_append_left _ _ (by omega)] at h'
/-- The shape of an owned slice. -/
theorem osl_shape {e n sz : Nat} {v : Value} {xs : List Value} (h : sat E w (osl e sz v n xs * R)) : ∃ a c, v = .slice a n c ∧ n ≤ c ∧ xs.length = n * sz ∧ (0 < n → ∃ b, a = some ⟨b, 0, none⟩) := by
  rcases sat_osl.1 h with ⟨rfl, rfl, rfl, hR⟩ | ⟨b, cap, sp, rfl, h1, h2, h3, h4, hP⟩
  · exact ⟨none, 0, rfl, Nat.le_refl _, by simp, fun h => by omega⟩
  · exact ⟨_, cap, rfl, h3, h1, fun _ => ⟨b, rfl⟩⟩
theorem st_in (h : sat E w H) {g : Gd} {t b o e : Nat} {xs : List Value} {fr : Nat × Nat} {v : Value} {A : Prop} [i : OneC P t] [hb : Has H b (.cells xs.toArray e fr)] (hv : xs[o]? = some v) (k : A) :
    stv P g (Instr.loadAt t (.pointer (some ⟨b, o, none⟩))) v w A := st_cell (cell_of (hb.get h) (by simpa using hv)) k
theorem Rds.under {H0 H1 R1 : HP} {v : Value} {n : Nat} {xs : List Value} (h : Rds H1 v n xs) [s : Split H0 H1 R1] : Rds H0 v n xs := fun E w hs => h E w (hs.split H1).drop'
theorem set_fill {α : Type} {us : List α} {z x : α} {n i : Nat} (hi : us.length = i) (h : i < n) : (us ++ List.replicate (n - i) z).set i x = (us ++ [x]) ++ List.replicate (n - (i + 1)) z := by
  rw [List.set_append_right _ _ (by omega), hi, Nat.sub_self, show n - i = (n - (i + 1)) + 1 by omega, List.replicate_succ]
  simp
/-- string(b). -/
theorem conv_bs {s d e n m : TypeId} {z : Value} [i : SliceT P s e n m z] [j : Ul P e (.int .u8)] [q : Ul P d .string] {v : Value} {l : List UInt8} (hv : RdS (hp w) v l.length (l.map bv)) (k : K (.string ⟨l.toArray⟩) w) :
    efv P (convert s d v) w K := by
  obtain ⟨a, c, rfl, hc, hw⟩ := hv
  cases a with
  | none =>
    have : l = [] := by
      rcases hw with h | ⟨_, _, _, _, _, h, _⟩
      · simpa using h
      · cases h
    subst this
    exact efv_of (Lib.run_convert_nil_bytes w s d e c i.ul j.ul q.ul) k
  | some a =>
    refine efv_of (run_convert_bytes_back w s d e a c l i.ul j.ul q.ul fun x hx => ?_) k
    obtain ⟨b, o, ha, hb⟩ := win_cell hw (j := x) (by simpa using hx)
    cases ha
    rw [add_addr, hb]
    simp [bv]
/-- A range over a function with a body: its record, its rounds, its call. -/
theorem rng_body (h : sat E w H) {n : Nat} {f : FuncId} {cap : Array Value} {fn : Func} {rd : List Value → World → (World → (World → Prop) → Prop) → (Exit → World → Prop) → Prop} {Q : Option Code → Nat → World → Prop}
    (hf : P.funcs[f]? = some fn) (hn : (fn.name == "runtime.NumGoroutine") = false) (hb : fn.body.isNone = false)
    (k : ∀ (rec : LoopState → Option Code → Obj) (D D1 : Nat) (w1 : World), sat E w1 (pts D1 (rec .ready none) * (pts D (.deferred (some [])) * H)) →
      (∀ (σ : List Value) (W : World) (K : Value → World → Prop), σ.length = n → W.heap[D1]? = some (rec .ready none) →
        rd σ W (fun W' k => W'.heap[D1]? = some (rec .ready none) ∧ k (W'.putObj D1 (rec .busy none)))
          (fun e W' => W'.heap[D1]? = some (rec .busy none) ∧
            match e with
            | .normal => K (.bool true) (W'.putObj D1 (rec .ready none))
            | .ret => K (.bool false) (W'.putObj D1 (rec .done (some .ret)))
            | .exit id => K (.bool false) (W'.putObj D1 (rec .done (some (.exit id))))
            | _ => False) →
        ef P (oCall (.func (.yield D1) #[] #[]) σ.toArray) W K) →
      Calls P f (#[.func (.yield D1) #[] #[]] ++ cap) w1 (Ret fun _ W => ∃ st p, W.heap[D1]? = some (rec st p) ∧ st ≠ .busy ∧ Q p D (W.putObj D1 (rec .exhausted p)))) :
    rng P n (.func (.func f) #[] cap) rd w Q := by
  intro rec hrec hround
  have hd := (h.alloc (.deferred (some []))).alloc (rec .ready none)
  have es : (w.alloc (.deferred (some []))).heap.size = w.heap.size + 1 := by show (w.heap.push _).size = _; simp
  rw [es] at hd
  have h1 : fn.name ≠ "runtime.NumGoroutine" := by simpa using hn
  have h2 : fn.body ≠ none := by intro e; simp [e] at hb
  exact ⟨f, _, by simp [oCall, Deferred.ofValue, invoke, callFunc, hf, h1, h2], k rec w.heap.size (w.heap.size + 1) _ hd hround⟩
theorem win_cut {J : Hp} {a : Option Addr} {xs : List Value} (h : win J a xs) {c n sz : Nat} (hc : c = n → xs.length ≤ n * sz) : win J (cutA a c n sz) (xs.drop (n * sz)) := by
  unfold cutA
  by_cases he : c = n
  · left; exact List.drop_eq_nil_of_le (hc he)
  · rw [if_neg he]
    rcases h with rfl | ⟨b, o, cs, e, fr, rfl, hb, hv⟩
    · left; simp
    · right
      refine ⟨b, o + n * sz, cs, e, fr, by simp [add_addr], hb, fun j v hj => ?_⟩
      rw [List.getElem?_drop] at hj
      have := hv _ _ hj
      rwa [← Nat.add_assoc] at this
/-- Of two that stay, a third. -/
theorem sat_imp2 (h : sat E w H) (φ ψ : PP) {χ : PP} {R1 R2 : HP} [s1 : Split H (pers φ) R1] [s2 : Split R1 (pers ψ) R2] (k : ∀ I, φ.p I → ψ.p I → χ.p I) : sat E w (pers χ * R2) := by
  have h := h.split (pers φ)
  rw [s2.eq, ← star_assoc, pers_and] at h
  exact h.pers_mono fun I hI => k I hI.1 hI.2
/-- A block is left alone. -/
theorem sat.lose (h : sat E w H) (b : Nat) {o : Obj} [Own H b o R] : sat E w R := (h.own b).drop
theorem st_agg (h : sat E w H) {g : Gd} {t n b e : Nat} {xs : List Value} {fr : Nat × Nat} {A : Prop} [i : AggC P t n] [hb : Has H b (.cells xs.toArray e fr)] (hn : xs.length = n) (k : A) :
    stv P g (Instr.loadAt t (.pointer (some ⟨b, 0, none⟩))) (.agg xs.toArray) w A :=
  stv_of (run_loadN hn fun j v hj => cell_of (hb.get h) (by simpa using hj)) k
/-- A meeting at which memory is as it was. -/
theorem jn_at {rest : List Value → World → Prop} {body : (List Value → World → Prop) → Prop} (h : sat E w H) (Ψ : HP → List Value → Prop)
    (h1 : ∀ k : List Value → World → Prop, (∀ σ w, Ψ H σ → sat E w H → k σ w) → body k) (h2 : ∀ σ w, Ψ H σ → sat E w H → rest σ w) : jn rest body := h1 rest h2
theorem o_rem {t : TypeId} {k : IntKind} {a b : Int} (hb : b ≠ 0) : pvv P (binOp .rem t (.int k a) (.int k b)) w K = K (.int k (a.tmod b)) w := pvv_eq fun _ => by simp [binOp, Op.intDiv, hb]
end
end Hold

/-
  Strings: their bytes appended, copied, compared.
-/
set_option linter.all false
namespace Hold
open Go
/-- A text of these bytes. -/
def tv (l : List UInt8) : Value := .string ⟨l.toArray⟩
section
variable {P : Program} {E : World0} {w : World} {H R : HP} {K : Value → World → Prop}

theorem strCells_tv (l : List UInt8) : Lib.strCells ⟨l.toArray⟩ = l.map bv := rfl
theorem o_lenT {t ty : TypeId} {cs : Array Bool} {l : List UInt8} [i : Ul P t .string] : pv P (oBi .len #[t] ty cs #[tv l]) w K = K (.int .i64 l.length) w := o_lenS
theorem beq_lists (a b : List UInt8) : (((⟨a.toArray⟩ : ByteArray).toList == (⟨b.toArray⟩ : ByteArray).toList)) = decide (a = b) := by
  rw [ByteArray.toList_eq, ByteArray.toList_eq]
  simp [Bool.beq_eq_decide_eq]
theorem o_eqT {t : TypeId} {xo yo : Operand} {a b : List UInt8} : pvv P (oEq .eql t xo yo (tv a) (tv b)) w K = K (.bool (decide (a = b))) w := by
  unfold tv; rw [o_eqStr, beq_lists]
theorem o_neT {t : TypeId} {xo yo : Operand} {a b : List UInt8} : pvv P (oEq .neq t xo yo (tv a) (tv b)) w K = K (.bool !(decide (a = b))) w := by
  unfold tv; rw [o_neStr, beq_lists]
theorem zlen (n : Nat) : (Builtin.zeroCells (Value.int .u8 0).cells n).toList.length = n := by
  rw [Array.length_toList, size_zeroCells]
  simp [Value.cells]
theorem append_str (h : sat E w H) {t u ty e : TypeId} [i : SliceT P t e 1 1 (.int .u8 0)] [j : Ul P u .string] {cs : Array Bool} {v : Value} {n : Nat} {xs : List Value} [s : OwnS H v e 1 n xs R] {l : List UInt8}
    (hb : n + l.length ≤ 140737488355328) (k : ∀ v' w', sat E w' (osl e 1 v' (n + l.length) (xs ++ l.map bv) * R) → K v' w') : ef P (oBi .append #[t, u] ty cs #[v, tv l]) w K := by
  obtain ⟨y, hy, hy1, hy2, hy3⟩ := i.parts
  have hs' := h.perm s.eq
  have ef_bi : ∀ {v' w'}, (Builtin.append_ #[t, u] ty #[v, tv l]).run P w = .ok v' w' → K v' w' → ef P (oBi .append #[t, u] ty cs #[v, tv l]) w K := fun hr hk =>
    ef_of (by simp [oBi, builtin, hr]) hk
  have hsz : (⟨l.toArray⟩ : ByteArray).size = l.length := by simp [ByteArray.size]
  have grow : ∀ (sCap : Nat) (X : HP), sat E w X → n = xs.length → sCap < n + l.length → sat E (w.drew.alloc (.cells (xs.toArray ++ (l.map bv).toArray ++ Builtin.zeroCells (Value.int .u8 0).cells (grownCap w (n + l.length) sCap e - (n + l.length))) e)) (osl e 1 (.slice (some ⟨w.heap.size, 0, none⟩) (n + l.length) (grownCap w (n + l.length) sCap e)) (n + l.length) (xs ++ l.map bv) * X) := by
    intro sCap X hX hxl hlt
    have hge := grownCap_ge w (n + l.length) sCap e
    have hle := grownCap_le_maxLen w (n + l.length) sCap e (by simp only [maxLen]; omega)
    refine sat_osl.2 (.inr ⟨w.heap.size, _, (Builtin.zeroCells (Value.int .u8 0).cells (grownCap w (n + l.length) sCap e - (n + l.length))).toList, rfl, by simp [hxl], ?_, hge, by simp only [maxLen] at hle; omega, ?_⟩)
    · rw [List.length_append, List.length_append, ← hxl, List.length_map, zlen]
      omega
    · have := hX.drew.alloc (.cells (xs.toArray ++ (l.map bv).toArray ++ Builtin.zeroCells (Value.int .u8 0).cells (grownCap w (n + l.length) sCap e - (n + l.length))) e (0, 0))
      have e1 : ((xs ++ l.map bv) ++ (Builtin.zeroCells (Value.int .u8 0).cells (grownCap w (n + l.length) sCap e - (n + l.length))).toList).toArray = xs.toArray ++ (l.map bv).toArray ++ Builtin.zeroCells (Value.int .u8 0).cells (grownCap w (n + l.length) sCap e - (n + l.length)) := by
        apply Array.ext'; simp
      rw [e1]; exact this
  rcases sat_osl.1 hs' with ⟨rfl, rfl, rfl, hR⟩ | ⟨b, cap, sp, rfl, hxl, hcl, hnc, hcm, hP⟩
  · by_cases hk0 : l.length = 0
    · have hn : l = [] := List.eq_nil_of_length_eq_zero hk0
      subst hn
      refine ef_bi (v' := .slice none 0 0) (w' := w) ?_ (k _ _ (by simpa using osl_nil hR e 1))
      simp [tv, Builtin.append_, run_underlying' i.ul, run_underlying' j.ul, Go.sizeOf, typeInfo, hy, Builtin.lenOf, Builtin.firstCells, ByteArray.size]
    · have hr := run_append_nil_string (P := P) (w := w) t u ty e y _ i.ul j.ul hy hy1 ⟨l.toArray⟩ (by rw [hsz]; omega) (by rw [hsz]; omega) (by rw [hsz, hy3]; omega)
      rw [hsz] at hr
      refine ef_bi hr (k _ _ ?_)
      have := grow 0 R hR (by simp) (by omega)
      have e2 : (⟨l.toArray⟩ : ByteArray).data.map (fun b => Value.int .u8 b.toNat) = (l.map bv).toArray := by simp [bv]
      simp only [Nat.zero_add, List.nil_append] at this ⊢
      rw [e2]
      simpa using this
  · have hbl := hP.pts_get
    have hxl : xs.length = n := by omega
    by_cases hroom : n + l.length ≤ cap
    · have hr := Lib.run_append_room_string (P := P) (w := w) t u ty e y i.ul j.ul hy hy2 b n cap (xs ++ sp).toArray hbl ⟨l.toArray⟩ (by rw [hsz]; exact hroom) (by rw [hsz]; simp only [List.size_toArray]; omega)
      rw [setRow_putObj hbl, hsz, strCells_tv] at hr
      refine ef_bi hr (k _ _ (sat_osl.2 (.inr ⟨b, cap, sp.drop l.length, rfl, by simp [hxl], ?_, hroom, hcm, ?_⟩)))
      · rw [List.length_append] at hcl
        simp only [List.length_append, List.length_drop, List.length_map]
        omega
      · have e1 : ((xs ++ sp).toArray.toList.take n ++ l.map bv ++ (xs ++ sp).toArray.toList.drop (n + l.length)) = xs ++ l.map bv ++ sp.drop l.length := by
          rw [← hxl]
          simp [List.take_left', List.drop_append]
        rw [e1]
        exact hP.set _
    · have holds : ∀ j u, xs[j]? = some u → w.cell? ((⟨b, 0, none⟩ : Addr).add j) = some u := fun j u hj => by
        rw [add_addr]; exact cell_of hbl (by
          have hlt := (List.getElem?_eq_some_iff.1 hj).1
          simpa [List.getElem?_append_left hlt] using hj)
      have hr := Lib.run_append_grow_string (P := P) (w := w) t u ty e y _ i.ul j.ul hy hy1 ⟨b, 0, none⟩ n cap xs (by rw [hy2]; omega) holds ⟨l.toArray⟩ (by rw [hsz]; omega) (by rw [hsz]; omega) (by rw [hsz, hy3]; exact growslice_fits (by omega) (by omega))
      rw [hsz, strCells_tv] at hr
      exact ef_bi hr (k _ _ (grow cap R hP.drop (by omega) (by omega)))
/-- copy: all of the source fits. -/
theorem copy_sl (h : sat E w H) {t u ty e e' m : TypeId} {z : Value} [i : SliceT P t e 1 m z] {cs : Array Bool} {b n c : Nat} {xs : List Value} [s : OwnS H (.slice (some ⟨b, 0, none⟩) n c) e' 1 n xs R]
    {a : Option Addr} {k' c' : Nat} {news : List Value} (hl : news.length = k') (hw : win (hp w) a news) (h1 : ∀ x ∈ news, x.oneCell' = true) (hle : k' ≤ n)
    (k : ∀ w', sat E w' (osl e' 1 (.slice (some ⟨b, 0, none⟩) n c) n (news ++ xs.drop k') * R) → K (.int .i64 k') w') : ef P (oBi .copy #[t, u] ty cs #[.slice (some ⟨b, 0, none⟩) n c, .slice a k' c']) w K := by
  have hs' := h.perm s.eq
  have ef_bi : ∀ {v' w'}, (Builtin.copy_ #[t, u] ty #[.slice (some ⟨b, 0, none⟩) n c, .slice a k' c']).run P w = .ok v' w' → K v' w' → ef P (oBi .copy #[t, u] ty cs #[.slice (some ⟨b, 0, none⟩) n c, .slice a k' c']) w K := fun hr hk =>
    ef_of (by simp [oBi, builtin, hr]) hk
  by_cases hk0 : k' = 0
  · subst hk0
    have hn : news = [] := List.eq_nil_of_length_eq_zero hl
    subst hn
    have hr := run_copy_none (P := P) w t u ty e (some ⟨b, 0, none⟩) a n c 0 c' i.ul i.size (by simp)
    exact ef_bi hr (k _ (by simpa using hs'))
  · obtain ⟨b', c2, sp, hv, hxl, hc, hP, hcl⟩ := osl_open hs' (by omega)
    cases hv
    rcases hw with rfl | ⟨b2, o2, cs2, e2, fr2, rfl, hb2, hv2⟩
    · simp at hl; omega
    · have hbl := hP.pts_get
      have hr := run_copy_row (P := P) w t u ty e b 0 n c ⟨b2, o2, none⟩ k' c' (xs ++ sp).toArray e' news i.ul i.size hbl (by rw [hl]; exact (Nat.min_eq_left hle).symm) (fun j v hj => by rw [add_addr]; exact cell_of hb2 (hv2 j v hj)) (by simp; omega) h1
      rw [setRow_putObj hbl] at hr
      refine ef_bi hr (by
        have := k (w.putObj b (.cells ((xs ++ sp).toArray.toList.take 0 ++ news ++ (xs ++ sp).toArray.toList.drop (0 + news.length)).toArray e' (0, 0))) (hcl (xs' := news ++ xs.drop k') (by simp; omega) ?_)
        · rw [hl] at this ⊢; exact this
        · have e1 : ((xs ++ sp).toArray.toList.take 0 ++ news ++ (xs ++ sp).toArray.toList.drop (0 + news.length)) = (news ++ xs.drop k') ++ sp := by
            simp only [List.take_zero, List.nil_append, Nat.zero_add, hl, List.append_assoc]
            congr 1
            rw [List.drop_append_of_le_length (by omega)]
          rw [e1]
          exact hP.set _)
theorem win_take {J : Hp} {a : Option Addr} {xs : List Value} (h : win J a xs) (m : Nat) : win J a (xs.take m) := by
  rcases h with rfl | ⟨b, o, cs, e, fr, rfl, hb, hv⟩
  · left; simp
  · right
    refine ⟨b, o, cs, e, fr, rfl, hb, fun j v hj => hv j v ?_⟩
    rw [List.getElem?_take] at hj
    split at hj
    · exact hj
    · cases hj
theorem RdS.cut {J : Hp} {a : Option Addr} {n c lo hi : Nat} {xs : List Value} (h : RdS J (.slice a n c) n xs) (hx : xs.length = n) (h1 : lo ≤ hi) (h2 : hi ≤ n) :
    RdS J (.slice (cutA a c lo 1) (hi - lo) (c - lo)) (hi - lo) ((xs.drop lo).take (hi - lo)) := by
  obtain ⟨a', c', e, hc, hw⟩ := h
  cases e
  refine ⟨_, _, rfl, by omega, win_take ?_ _⟩
  have := win_cut (sz := 1) hw (c := c) (n := lo) (fun hcn => by omega)
  rwa [Nat.mul_one] at this
theorem RdS.cutl {J : Hp} {a : Option Addr} {n c lo : Nat} {xs : List Value} (h : RdS J (.slice a n c) n xs) (hx : xs.length = n) (h1 : lo ≤ n) :
    RdS J (.slice (cutA a c lo 1) (n - lo) (c - lo)) (n - lo) (xs.drop lo) := by
  have := h.cut hx h1 (Nat.le_refl n)
  rwa [List.take_of_length_le (by simp; omega)] at this
end
end Hold

/-
  Words of 32 bits, and bytes: their operations.
-/
set_option linter.all false
namespace Hold
open Go
/-- A word as the model has it. -/
def wv (x : UInt32) : Value := .int .u32 x.toNat
section
variable {P : Program} {w : World} {K : Value → World → Prop}
theorem ofInt32 (a : UInt32) : BitVec.ofInt 32 (a.toNat : Int) = a.toBitVec := by
  apply BitVec.eq_of_toNat_eq; simp
theorem ofInt8 (a : UInt8) : BitVec.ofInt 8 (a.toNat : Int) = a.toBitVec := by
  apply BitVec.eq_of_toNat_eq; simp
theorem wrapW (a : UInt32) : IntKind.u32.wrap (a.toNat : Int) = a.toNat := by
  have := a.toNat_lt
  rw [IntKind.wrap_u32]; omega
theorem wrapB (a : UInt8) : IntKind.u8.wrap (a.toNat : Int) = a.toNat := by
  have := a.toNat_lt
  rw [IntKind.wrap_u8]; omega
theorem o_xorW {t : TypeId} {a b : UInt32} : pvv P (binOp .xor t (wv a) (wv b)) w K = K (wv (a ^^^ b)) w := pvv_eq fun _ => by
  simp only [binOp, Op.intBits, wv, IntKind.bits, ofInt32]
  simp
  exact (wrapW (a ^^^ b)).trans (by simp)
theorem o_andW {t : TypeId} {a b : UInt32} : pvv P (binOp .and t (wv a) (wv b)) w K = K (wv (a &&& b)) w := pvv_eq fun _ => by
  simp only [binOp, Op.intBits, wv, IntKind.bits, ofInt32]
  simp
  exact (wrapW (a &&& b)).trans (by simp)
theorem o_orW {t : TypeId} {a b : UInt32} : pvv P (binOp .or t (wv a) (wv b)) w K = K (wv (a ||| b)) w := pvv_eq fun _ => by
  simp only [binOp, Op.intBits, wv, IntKind.bits, ofInt32]
  simp
  exact (wrapW (a ||| b)).trans (by simp)
theorem o_addW {t : TypeId} {a b : UInt32} : pvv P (binOp .add t (wv a) (wv b)) w K = K (wv (a + b)) w := by
  unfold wv
  rw [o_add, IntKind.wrap_u32]
  congr 2
theorem o_shrW {t : TypeId} {a : UInt32} {k : IntKind} {n : Nat} (hn : n < 32) : pvv P (binOp .shr t (wv a) (.int k n)) w K = K (wv (a >>> UInt32.ofNat n)) w := pvv_eq fun _ => by
  have h0 : ¬ ((n : Int) < 0) := by omega
  have hm : min n 32 = n := by omega
  simp only [binOp, Op.shift, wv, h0, if_false, Int.toNat_natCast, IntKind.bits, hm]
  simp only [Sem.run_pure]
  congr 2
  rw [UInt32.toNat_shiftRight]
  have : (UInt32.ofNat n).toNat % 32 = n := by simp; omega
  rw [this, Nat.shiftRight_eq_div_pow]
  have h2 : ((2 : Int) ^ n) = ((2 ^ n : Nat) : Int) := by simp
  rw [h2, Int.fdiv_eq_ediv_of_nonneg _ (Int.natCast_nonneg _)]
  simp
theorem o_shlW {t : TypeId} {a : UInt32} {k : IntKind} {n : Nat} (hn : n < 32) : pvv P (binOp .shl t (wv a) (.int k n)) w K = K (wv (a <<< UInt32.ofNat n)) w := pvv_eq fun _ => by
  have h0 : ¬ ((n : Int) < 0) := by omega
  have hm : min n 32 = n := by omega
  simp only [binOp, Op.shift, wv, h0, if_false, Int.toNat_natCast, IntKind.bits, hm]
  simp only [Sem.run_pure]
  congr 2
  rw [UInt32.toNat_shiftLeft, IntKind.wrap_u32]
  have : (UInt32.ofNat n).toNat % 32 = n := by simp; omega
  rw [this, Nat.shiftLeft_eq]
  simp
end
end Hold

/-
  Arrays: their places, their slices.
-/
set_option linter.all false
namespace Hold
open Go
section
variable {P : Program} {w : World} {K : Value → World → Prop}
theorem o_indexA {t e : TypeId} {len : Nat} [i : Ul P t (.array len e)] [j : OneC P e] {b o : Nat} {k : IntKind} {x : Int} (h0 : 0 ≤ x) (h1 : x < len) :
    pvv P (Instr.indexAt t (.pointer (some ⟨b, o, none⟩)) (.int k x)) w K = K (.pointer (some ⟨b, o + x.toNat, none⟩)) w := pvv_eq fun w => by
  simp [Instr.indexAt, Instr.sureAddr, asIntOf, run_underlying' i.ul, run_sizeOf' j.size, h0, h1, add_addr]
theorem o_sliceA {t e : TypeId} {len : Nat} [i : Ul P t (.array len e)] [j : OneC P e] {b o : Nat} :
    pvv P (Instr.sliceAt t (.pointer (some ⟨b, o, none⟩)) none none none) w K = K (.slice (some ⟨b, o, none⟩) len len) w := pvv_eq fun w => by
  simp [Instr.sliceAt, Instr.sureAddr, Instr.sliceBounds, Instr.sliceBound, run_underlying' i.ul, run_sizeOf' j.size, add_addr]
theorem res_agg {E : World0} {H : HP} (h : sat E w H) {t n b e : Nat} {xs : List Value} {fr : Nat × Nat} [i : AggC P t n] [hb : Has H b (.cells xs.toArray e fr)] (hn : xs.length = n) (k : K (.agg xs.toArray) w) :
    ∃ r, (do loadVar t (← asAddr (.pointer (some ⟨b, 0, none⟩)))).run P w = .ok r w ∧ K r w := by
  refine ⟨_, ?_, k⟩
  have := run_loadN (P := P) (w := w) (t := t) (b := b) (o := 0) (cs := xs) hn fun j v hj => cell_of (hb.get h) (by simpa using hj)
  simpa [Instr.loadAt, Instr.sureAddr, asAddr] using this
theorem o_eqArr {t e : TypeId} {n : Nat} [i : Ul P t (.array n e)] [j : Ul P e (.int .u8)] [q : OneC P e] {xo yo : Operand} (hg : P.eqGuardType P.depth t = false) {xs ys : List UInt8} (hx : xs.length = n) (hy : ys.length = n) :
    pvv P (oEq .eql t xo yo (.agg (xs.map bv).toArray) (.agg (ys.map bv).toArray)) w K = K (.bool (xs == ys)) w := pvv_eq fun w => by
  have := run_equalIn_bytes (P := P) w 9998 t e n i.ul j.ul (fun w => run_sizeOf' q.size) xs ys hx hy
  have e2 : (Op.equal t (.agg (xs.map bv).toArray) (.agg (ys.map bv).toArray)).run P w = .ok (xs == ys) w := this
  simp [oEq, eqGuard, hg, binOp, e2]
theorem bv_ne {a b : UInt8} : (bv a = bv b) ↔ a = b := by
  unfold bv
  constructor
  · intro h; simp at h; exact UInt8.toNat_inj.1 (by omega)
  · rintro rfl; rfl

end
end Hold
