/-
  CodecUnder: for every two rows of parts that are not too great the law returns true.
-/
import Derived.Test.YtnkmgkilfkgfhaaDoorCodUnderW
import Derived.Test.YtnkmgkilfkgfhaaDoorCodH
import Derived.Test.YtnkmgkilfkgfhaaDoorCardU
import Derived.Test.YtnkmgkilfkgfhaaDoorCards
import Derived.Test.YtnkmgkilfkgfhaaDoorTie
set_option linter.all false
set_option maxRecDepth 100000
namespace Go.Proofs.YtnkmgkilfkgfhaaDoor.Under
open Go Hold Go.ChangeShapes Go.WideShapes Go.ChangeAt Go.RowKit
theorem one_le {H : Type} (d : DataW H) : 1 ≤ Rows.uptoBulk d := by
  cases d with
  | lit l => cases l <;> simp [Rows.uptoBulk]
  | nil => simp [Rows.uptoBulk]
  | ptr d => simp [Rows.uptoBulk]
  | slice elems spare => simp [Rows.uptoBulk]
  | agg parts => simp [Rows.uptoBulk]
  | iface t d => simp [Rows.uptoBulk]
  | map entries => simp [Rows.uptoBulk]
  | held h => simp [Rows.uptoBulk]
theorem part_le {H : Type} {d : DataW H} : ∀ {l : List (DataW H)}, d ∈ l → Rows.uptoBulk d ≤ Rows.uptoBulkAll l
  | x :: r, h => by
    simp only [Rows.uptoBulkAll]
    rcases List.mem_cons.1 h with rfl | h
    · omega
    · have := part_le h; omega
theorem length_le {H : Type} : ∀ (l : List (DataW H)), l.length ≤ Rows.uptoBulkAll l
  | [] => by simp [Rows.uptoBulkAll]
  | x :: r => by have := one_le x; have := length_le r; simp only [Rows.uptoBulkAll, List.length_cons]; omega
theorem texts_small {H : Type} {ds : List (DataW H)} {d : DataW H} {cs : List (List UInt8)} (hb : Rows.uptoSmall H ds = true) (h : cs = [] ∨ ∃ es sp, d = .slice es sp ∧ es.length = cs.length) (hm : d ∈ ds) : cs.length ≤ 1048576 := by
  rcases h with rfl | ⟨es, sp, rfl, h⟩
  · simp
  · have h1 := part_le hm
    have h2 := length_le es
    have h3 : Rows.uptoBulkAll ds ≤ 1048576 := by simpa [Rows.uptoSmall] using hb
    simp only [Rows.uptoBulk] at h1
    omega
theorem walk (W : World) {H : Type} (enc : TypeId × Value → H) (args : Array Value) (ds : List (DataW H)) (ps : List MemPlace)
    (hval : ∀ (j : Nat) t v, Tryd.f6.params.toList[j]? = some t → args.toList[j]? = some v → ∃ base, Value.okWide Tryd.checked.prog W .any base t v)
    (hA : DataW.TrodAll enc Tryd.checked.prog W 0 (fun _ => true) true Tryd.f6.params.toList args.toList ds ps)
    (hw : ∀ (j : Nat) t d, Tryd.f6.params.toList[j]? = some t → ds[j]? = some d → ∀ n ∈ d.weights Tryd.checked.prog t, n ≤ 140737488351232) (hb : Rows.uptoSmall H ds = true) (hL : laidMetH Tryd.checked.prog Rows.codecUnderUptoRow.laid W) :
    Calls Tryd.checked.prog 6 args W (Ret fun v W' => v = .bool true ∧ Below W.heap.size W W') := by
  rw [show Tryd.f6.params.toList = [22, 22] by kernel_rfl] at hval hA hw
  obtain ⟨v0, vs0, d0, ds0, p0, q0, hargs, rfl, rfl, h0, r0'⟩ := trodAll_cons hA
  obtain ⟨v1, vs1, d1, ds1, p1, q1, rfl, rfl, rfl, h1, r1'⟩ := trodAll_cons r0'
  obtain ⟨rfl, rfl, rfl⟩ := trodAll_nil r1'
  obtain rfl : args = #[v0, v1] := by cases args; simp_all
  obtain ⟨b0, o0⟩ := hval 0 22 v0 rfl rfl
  obtain ⟨b1, o1⟩ := hval 1 22 v1 rfl rfl
  obtain ⟨x0, rx0, zx0⟩ := open_textsU (t := 22) (e := 9) (by kernel_rfl) (by kernel_rfl) (by kernel_rfl) o0 h0
  obtain ⟨x1, rx1, zx1⟩ := open_textsU (t := 22) (e := 9) (by kernel_rfl) (by kernel_rfl) (by kernel_rfl) o1 h1
  exact Under_spec (sat.start W) (dbt_of hL) x0 rx0 (texts_small hb zx0 (by simp)) x1 rx1 (texts_small hb zx1 (by simp)) fun w' h => ⟨rfl, sat.below (h.whole)⟩

noncomputable def laidWorld (os : Os) : World := layAll Tryd.prog Rows.codecUnderUptoRow.laid (World.holding Tryd.prog os ⟨#[], #[], []⟩)
theorem laid_met (os : Os) : laidMet Tryd.prog Rows.codecUnderUptoRow.laid ((laidWorld os).forCall (fun _ _ => 0) ⟨#[], #[.slice none 0 0, .slice none 0 0], []⟩).memory :=
  laidMet_of_run' 8 (by kernel_rfl) (by kernel_rfl)

theorem lifted (os : Os) (started : os.Started) (H : Type) (enc : TypeId × Value → H) (F : Stop.Interp) :
    ReturnsInHanded {} Tryd.checked os 6 .any ((Rows.OpenSpec.upto Rows.codecUnderSpec).preRow enc Tryd.prog Tryd.f6 Rows.codecUnderUptoRow.domain false Rows.codecUnderUptoRow.laid) (((Rows.OpenSpec.upto Rows.codecUnderSpec).at F).post enc Tryd.prog Tryd.f6 false true false false) := by
  refine law_liftedU (C := Tryd.checked) (cnd := Rows.uptoSmall) (tb := 4) (by kernel_rfl) started (by kernel_rfl) Tryd.func6
    (witness_row_at (enc := enc) (C := Tryd.checked) (s := Rows.OpenSpec.upto Rows.codecUnderSpec) false (laidWorld os) #[.slice none 0 0, .slice none 0 0] rfl (by kernel_rfl) (by kernel_rfl) (by kernel_rfl)
      (OpenSpec.preRow_of_cond 8 (x := ([.nil, .nil], [], [])) (by kernel_rfl) (by kernel_rfl) (fun k hk => by obtain rfl := Option.some.inj hk; kernel_rfl) (by kernel_rfl) (laid_met os)))
    (by kernel_rfl) (by kernel_rfl) (by kernel_rfl) (by kernel_rfl) rfl ?_ ?_
  · intro ds hd
    rw [show Tryd.f6.params.toList = [22, 22] by kernel_rfl] at hd
    match ds, hd with
    | [a0, a1], _ => rfl
  · exact fun W args ds ps => walk W enc args ds ps

theorem said : Rows.CodecUnderUptoSaid :=
  OpenClaim.holds_of_cond 6 Tryd.f6 rfl rfl rfl rfl rfl rfl rfl ⟨rfl, rfl, rfl, rfl, rfl⟩ rfl rfl rfl rfl rfl (by kernel_rfl) Tryd.func6 (by kernel_rfl)
    (of_decide_eq_true (by kernel_rfl)) (by unfold Func.isWrapper; first | (rw [if_pos (by decide +kernel)]; kernel_rfl) | (rw [if_neg (by decide +kernel)]; exact ⟨rfl, rfl⟩))
    (fun os started H enc _ F => by rw [OpenClaim.pre_eq_preRow]; exact lifted os started H enc F)
theorem plain (f : FuncId) (fn : Func) (hf : Tryd.pinned.checked.prog.funcNamed "holdfast/holdfastlaw02.CodecUnder" = some f) (hfn : Tryd.pinned.checked.prog.funcs[f]? = some fn) :
    true = Tryd.pinned.checked.prog.looks [] ∧ ∀ (j : Nat) t, fn.params[j]? = some t → Tryd.pinned.checked.prog.wantsStandIn t = false := by
  obtain rfl : f = 6 := Option.some.inj ((show Tryd.prog.funcNamed "holdfast/holdfastlaw02.CodecUnder" = some 6 by kernel_rfl).symm.trans hf) |>.symm
  obtain rfl : fn = Tryd.f6 := (Option.some.inj (Tryd.func6.symm.trans hfn)).symm
  refine ⟨by kernel_rfl, fun j t ht => ?_⟩
  have ht2 : Tryd.f6.params.toList[j]? = some t := by simpa using ht
  rw [show Tryd.f6.params.toList = [22, 22] by kernel_rfl] at ht2
  have hm := List.mem_of_getElem? ht2
  have all : ∀ t ∈ ([22, 22] : List Nat), Tryd.prog.wantsStandIn t = false := by
    intro t ht
    have := List.all_eq_true.1 (show ([22, 22] : List Nat).all (fun t => Tryd.prog.wantsStandIn t == false) = true by kernel_rfl) t ht
    simpa using this
  exact all t hm
theorem proved : Rows.CodecUnderUptoCardSaid :=
  Claim7.holds_tied_plain_at .later [] _ _ _ _ said (fun _ h => by cases h) (by kernel_rfl) (fun _ h => by cases h) codecUnderUpto_row_tie rfl ⟨rfl, rfl⟩ (by kernel_rfl) rfl plain (by kernel_rfl)
#print axioms proved
end Go.Proofs.YtnkmgkilfkgfhaaDoor.Under
