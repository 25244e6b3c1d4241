/-
  Slices of bytes and of numbers, as they are read and owned.
-/
import Derived.Test.YtcjklbhobmkalaaVc
import Derived.Laws.IdiomStrings
import Derived.Lib.BufferRead
set_option linter.all false
namespace Hold
open Go

/-- A byte as the model has it. -/
def bv (b : UInt8) : Value := .int .u8 b.toNat
/-- A slice whose elements read so. -/
def RdS (J : Hp) (v : Value) (n : Nat) (xs : List Value) : Prop := ∃ a c, v = .slice a n c ∧ n ≤ c ∧ win J a xs
/-- A slice of bytes that reads so. -/
def Rd (J : Hp) (v : Value) (l : List UInt8) : Prop := RdS J v l.length (l.map bv)

theorem win.mono {J J' : Hp} (hJ : ∀ b o, J b = some o → J' b = some o) {a : Option Addr} {xs : List Value} (h : win J a xs) : win J' a xs := by
  rcases h with h | ⟨b, o, cs, e, fr, h1, h2, h3⟩
  · exact .inl h
  · exact .inr ⟨b, o, cs, e, fr, h1, hJ _ _ h2, h3⟩
theorem RdS.mono {J J' : Hp} (hJ : ∀ b o, J b = some o → J' b = some o) {v : Value} {n : Nat} {xs : List Value} (h : RdS J v n xs) : RdS J' v n xs :=
  let ⟨a, c, h1, h2, h3⟩ := h; ⟨a, c, h1, h2, h3.mono hJ⟩
/-- It stays so for ever. -/
def immS (v : Value) (n : Nat) (xs : List Value) : PP := ⟨fun I => RdS I v n xs, fun hI h => h.mono hI⟩

/-- Wherever H holds, the slice reads so. -/
def Rds (H : HP) (v : Value) (n : Nat) (xs : List Value) : Prop := ∀ (E : World0) (w : World), sat E w H → RdS (hp w) v n xs
theorem Rds.right {H X : HP} {v : Value} {n : Nat} {xs : List Value} (h : Rds H v n xs) : Rds (X * H) v n xs := fun E w hs => h E w hs.drop
theorem Rds.left {H X : HP} {v : Value} {n : Nat} {xs : List Value} (h : Rds H v n xs) : Rds (H * X) v n xs := fun E w hs => h E w hs.drop'
theorem Rds.shape {H : HP} {v : Value} {n : Nat} {xs : List Value} (h : Rds H v n xs) {E : World0} {w : World} (hs : sat E w H) : ∃ a c, v = .slice a n c ∧ n ≤ c ∧ Rds H (.slice a n c) n xs ∧ (a = none → xs = []) := by
  obtain ⟨a, c, rfl, hc, hw⟩ := h E w hs
  refine ⟨a, c, rfl, hc, h, ?_⟩
  rintro rfl
  rcases hw with hw | ⟨_, _, _, _, _, ha, _⟩
  · exact hw
  · cases ha
theorem Rds.win {H : HP} {a : Option Addr} {n c : Nat} {xs : List Value} (h : Rds H (.slice a n c) n xs) {E : World0} {w : World} (hs : sat E w H) : win (hp w) a xs := by
  obtain ⟨a', c', e, _, hw⟩ := h E w hs
  cases e
  exact hw
theorem Rds.pers {v : Value} {n : Nat} {xs : List Value} : Rds (pers (immS v n xs)) v n xs := fun E w hs => (hs.whole).pers_get

section
variable {P : Program} {E : World0} {w : World} {H R : HP} {K : Value → World → Prop}

theorem osl_rd {e n : Nat} {v : Value} {xs : List Value} {sz : Nat} (h : sat E w (osl e sz v n xs * R)) : RdS (hp w) v n xs := by
  rcases sat_osl.1 h with ⟨rfl, rfl, rfl, hR⟩ | ⟨b, cap, sp, rfl, h1, h2, h3, h4, hP⟩
  · exact ⟨none, 0, rfl, Nat.le_refl _, .inl rfl⟩
  · refine ⟨_, cap, rfl, h3, .inr ⟨b, 0, _, e, (0, 0), rfl, hP.pts_get, fun j v hj => ?_⟩⟩
    have hlt := (List.getElem?_eq_some_iff.1 hj).1
    simpa [List.getElem?_append_left hlt] using hj
theorem Rds.osl {e n : Nat} {v : Value} {xs : List Value} {sz : Nat} : Rds (osl e sz v n xs) v n xs := fun E w hs => osl_rd hs.whole
/-- What is owned may be let stay. -/
theorem osl_freeze {e n : Nat} {v : Value} {xs : List Value} {sz : Nat} (h : sat E w (osl e sz v n xs * R)) : sat E w (pers (immS v n xs) * R) := by
  rcases sat_osl.1 h with ⟨rfl, rfl, rfl, hR⟩ | ⟨b, cap, sp, rfl, h1, h2, h3, h4, hP⟩
  · exact hR.mono fun I h' hp' => (pers_star_p _ _ _ _).2 ⟨⟨none, 0, rfl, Nat.le_refl _, .inl rfl⟩, hp'⟩
  · refine (hP.freeze).pers_mono (ψ := immS _ n xs) fun I hI => ⟨_, cap, rfl, h3, .inr ⟨b, 0, _, e, (0, 0), rfl, hI, fun j v hj => ?_⟩⟩
    have hlt := (List.getElem?_eq_some_iff.1 hj).1
    simpa [List.getElem?_append_left hlt] using hj
theorem bv_one (l : List UInt8) : ∀ x ∈ l.map bv, x.oneCell' = true := by
  intro x hx
  obtain ⟨b, _, rfl⟩ := List.mem_map.1 hx
  rfl
theorem win_cell {xs : List Value} {a : Option Addr} (h : win (hp w) a xs) {j : Nat} (hj : j < xs.length) : ∃ b o, a = some ⟨b, o, none⟩ ∧ w.cell? ⟨b, o + j, none⟩ = some xs[j] := by
  rcases h with rfl | ⟨b, o, cs, e, fr, h1, h2, h3⟩
  · simp at hj
  · exact ⟨b, o, h1, cell_of h2 (h3 j _ (List.getElem?_eq_getElem hj))⟩
theorem i64_of {n : Int} (h0 : -9223372036854775808 ≤ n) (h1 : n ≤ 9223372036854775807) : IntKind.i64.wrap n = n := by
  rw [IntKind.wrap_i64]; omega
/-- An owned slice, opened: its block; what closes it again. -/
theorem osl_open {e n sz : Nat} {v : Value} {xs : List Value} (h : sat E w (osl e sz v n xs * R)) (hn : 0 < n) :
    ∃ b c sp, v = .slice (some ⟨b, 0, none⟩) n c ∧ xs.length = n * sz ∧ n ≤ c ∧ sat E w (pts b (.cells (xs ++ sp).toArray e (0, 0)) * R) ∧
      ∀ {w' : World} {R' : HP} {xs' : List Value}, xs'.length = xs.length → sat E w' (pts b (.cells (xs' ++ sp).toArray e (0, 0)) * R') → sat E w' (osl e sz v n xs' * R') := by
  rcases sat_osl.1 h with ⟨rfl, rfl, rfl, hR⟩ | ⟨b, cap, sp, rfl, h1, h2, h3, h4, hP⟩
  · omega
  · refine ⟨b, cap, sp, rfl, h1, h3, hP, fun {w' R' xs'} hl h' => sat_osl.2 (.inr ⟨b, cap, sp, rfl, by omega, ?_, h3, h4, h'⟩)⟩
    rw [List.length_append] at h2 ⊢; omega
/-- A store into an owned slice. -/
theorem osl_store (h : sat E w H) {t e n b c : Nat} {i : Nat} {xs : List Value} {u : Value} [OneC P t] [s : OwnS H (.slice (some ⟨b, 0, none⟩) n c) e 1 n xs R] (hi : i < n) (hu : u.oneCell' = true)
    (k : ∀ w', sat E w' (osl e 1 (.slice (some ⟨b, 0, none⟩) n c) n (xs.set i u) * R) → K undef w') :
    efu P (Instr.storeAt t (.pointer (some ⟨b, i, none⟩)) u) w K := by
  obtain ⟨b', c', sp, hv, hl, hc, hP, hcl⟩ := osl_open (h.perm s.eq) (by omega)
  cases hv
  refine store_sl hP hu (by simp; omega) fun w' h' => k w' (hcl (xs' := xs.set i u) (by simp) ?_)
  rwa [List.set_append_left _ _ (by omega)] at h'
/-- The shape of an owned slice. -/
theorem osl_shape {e n sz : Nat} {v : Value} {xs : List Value} (h : sat E w (osl e sz v n xs * R)) : ∃ a c, v = .slice a n c ∧ n ≤ c ∧ xs.length = n * sz ∧ (0 < n → ∃ b, a = some ⟨b, 0, none⟩) := by
  rcases sat_osl.1 h with ⟨rfl, rfl, rfl, hR⟩ | ⟨b, cap, sp, rfl, h1, h2, h3, h4, hP⟩
  · exact ⟨none, 0, rfl, Nat.le_refl _, by simp, fun h => by omega⟩
  · exact ⟨_, cap, rfl, h3, h1, fun _ => ⟨b, rfl⟩⟩
theorem st_in (h : sat E w H) {g : Gd} {t b o e : Nat} {xs : List Value} {fr : Nat × Nat} {v : Value} {A : Prop} [i : OneC P t] [hb : Has H b (.cells xs.toArray e fr)] (hv : xs[o]? = some v) (k : A) :
    stv P g (Instr.loadAt t (.pointer (some ⟨b, o, none⟩))) v w A := st_cell (cell_of (hb.get h) (by simpa using hv)) k
theorem Rds.under {H0 H1 R1 : HP} {v : Value} {n : Nat} {xs : List Value} (h : Rds H1 v n xs) [s : Split H0 H1 R1] : Rds H0 v n xs := fun E w hs => h E w (hs.split H1).drop'
theorem set_fill {α : Type} {us : List α} {z x : α} {n i : Nat} (hi : us.length = i) (h : i < n) : (us ++ List.replicate (n - i) z).set i x = (us ++ [x]) ++ List.replicate (n - (i + 1)) z := by
  rw [List.set_append_right _ _ (by omega), hi, Nat.sub_self, show n - i = (n - (i + 1)) + 1 by omega, List.replicate_succ]
  simp
/-- string(b). -/
theorem conv_bs {s d e n m : TypeId} {z : Value} [i : SliceT P s e n m z] [j : Ul P e (.int .u8)] [q : Ul P d .string] {v : Value} {l : List UInt8} (hv : RdS (hp w) v l.length (l.map bv)) (k : K (.string ⟨l.toArray⟩) w) :
    efv P (convert s d v) w K := by
  obtain ⟨a, c, rfl, hc, hw⟩ := hv
  cases a with
  | none =>
    have : l = [] := by
      rcases hw with h | ⟨_, _, _, _, _, h, _⟩
      · simpa using h
      · cases h
    subst this
    exact efv_of (Lib.run_convert_nil_bytes w s d e c i.ul j.ul q.ul) k
  | some a =>
    refine efv_of (run_convert_bytes_back w s d e a c l i.ul j.ul q.ul fun x hx => ?_) k
    obtain ⟨b, o, ha, hb⟩ := win_cell hw (j := x) (by simpa using hx)
    cases ha
    rw [add_addr, hb]
    simp [bv]
/-- A range over a function with a body: its record, its rounds, its call. -/
theorem rng_body (h : sat E w H) {n : Nat} {f : FuncId} {cap : Array Value} {fn : Func} {rd : List Value → World → (World → (World → Prop) → Prop) → (Exit → World → Prop) → Prop} {Q : Option Code → Nat → World → Prop}
    (hf : P.funcs[f]? = some fn) (hn : (fn.name == "runtime.NumGoroutine") = false) (hb : fn.body.isNone = false)
    (k : ∀ (rec : LoopState → Option Code → Obj) (D D1 : Nat) (w1 : World), sat E w1 (pts D1 (rec .ready none) * (pts D (.deferred (some [])) * H)) →
      (∀ (σ : List Value) (W : World) (K : Value → World → Prop), σ.length = n → W.heap[D1]? = some (rec .ready none) →
        rd σ W (fun W' k => W'.heap[D1]? = some (rec .ready none) ∧ k (W'.putObj D1 (rec .busy none)))
          (fun e W' => W'.heap[D1]? = some (rec .busy none) ∧
            match e with
            | .normal => K (.bool true) (W'.putObj D1 (rec .ready none))
            | .ret => K (.bool false) (W'.putObj D1 (rec .done (some .ret)))
            | .exit id => K (.bool false) (W'.putObj D1 (rec .done (some (.exit id))))
            | _ => False) →
        ef P (oCall (.func (.yield D1) #[] #[]) σ.toArray) W K) →
      Calls P f (#[.func (.yield D1) #[] #[]] ++ cap) w1 (Ret fun _ W => ∃ st p, W.heap[D1]? = some (rec st p) ∧ st ≠ .busy ∧ Q p D (W.putObj D1 (rec .exhausted p)))) :
    rng P n (.func (.func f) #[] cap) rd w Q := by
  intro rec hrec hround
  have hd := (h.alloc (.deferred (some []))).alloc (rec .ready none)
  have es : (w.alloc (.deferred (some []))).heap.size = w.heap.size + 1 := by show (w.heap.push _).size = _; simp
  rw [es] at hd
  have h1 : fn.name ≠ "runtime.NumGoroutine" := by simpa using hn
  have h2 : fn.body ≠ none := by intro e; simp [e] at hb
  exact ⟨f, _, by simp [oCall, Deferred.ofValue, invoke, callFunc, hf, h1, h2], k rec w.heap.size (w.heap.size + 1) _ hd hround⟩
theorem win_cut {J : Hp} {a : Option Addr} {xs : List Value} (h : win J a xs) {c n sz : Nat} (hc : c = n → xs.length ≤ n * sz) : win J (cutA a c n sz) (xs.drop (n * sz)) := by
  unfold cutA
  by_cases he : c = n
  · left; exact List.drop_eq_nil_of_le (hc he)
  · rw [if_neg he]
    rcases h with rfl | ⟨b, o, cs, e, fr, rfl, hb, hv⟩
    · left; simp
    · right
      refine ⟨b, o + n * sz, cs, e, fr, by simp [add_addr], hb, fun j v hj => ?_⟩
      rw [List.getElem?_drop] at hj
      have := hv _ _ hj
      rwa [← Nat.add_assoc] at this
/-- Of two that stay, a third. -/
theorem sat_imp2 (h : sat E w H) (φ ψ : PP) {χ : PP} {R1 R2 : HP} [s1 : Split H (pers φ) R1] [s2 : Split R1 (pers ψ) R2] (k : ∀ I, φ.p I → ψ.p I → χ.p I) : sat E w (pers χ * R2) := by
  have h := h.split (pers φ)
  rw [s2.eq, ← star_assoc, pers_and] at h
  exact h.pers_mono fun I hI => k I hI.1 hI.2
/-- A block is left alone. -/
theorem sat.lose (h : sat E w H) (b : Nat) {o : Obj} [Own H b o R] : sat E w R := (h.own b).drop
theorem st_agg (h : sat E w H) {g : Gd} {t n b e : Nat} {xs : List Value} {fr : Nat × Nat} {A : Prop} [i : AggC P t n] [hb : Has H b (.cells xs.toArray e fr)] (hn : xs.length = n) (k : A) :
    stv P g (Instr.loadAt t (.pointer (some ⟨b, 0, none⟩))) (.agg xs.toArray) w A :=
  stv_of (run_loadN hn fun j v hj => cell_of (hb.get h) (by simpa using hj)) k
/-- A meeting at which memory is as it was. -/
theorem jn_at {rest : List Value → World → Prop} {body : (List Value → World → Prop) → Prop} (h : sat E w H) (Ψ : HP → List Value → Prop)
    (h1 : ∀ k : List Value → World → Prop, (∀ σ w, Ψ H σ → sat E w H → k σ w) → body k) (h2 : ∀ σ w, Ψ H σ → sat E w H → rest σ w) : jn rest body := h1 rest h2
theorem o_rem {t : TypeId} {k : IntKind} {a b : Int} (hb : b ≠ 0) : pvv P (binOp .rem t (.int k a) (.int k b)) w K = K (.int k (a.tmod b)) w := pvv_eq fun _ => by simp [binOp, Op.intDiv, hb]
end
end Hold
