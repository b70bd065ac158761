/- RpcOnce's row and card. -/
import Derived.Test.YtldnpolfcickaaaDoorLawBase
import Derived.Test.YtldnpolfcickaaaDoorLaw20b
import Derived.SizedLaws
set_option linter.unusedVariables false
set_option linter.unusedSimpArgs false
namespace Go.Proofs.YtldnpolfcickaaaDoor
open Go Go.WH Go.ChangeShapes Go.WideShapes Go.ChangeAt Go.RowKit
set_option maxRecDepth 100000
set_option maxHeartbeats 1000000
theorem open_call {W : World} {cs : List Value} (h : Tr Tryd.prog W 28 cs) : ∃ (c : CallS) (A : Option Addr) (k : Nat), cs = [.int .u8 c.client, .int .u32 c.inc, .int .u64 c.seq, .int .u8 c.kind, .int .u32 c.ino, .int .u32 c.gen, .string c.name, .int .u32 c.toIno, .int .u32 c.toGen, .string c.toName, .int .u32 c.off, .int .u32 c.size, .slice A c.data.length k] ∧ c.Wf ∧ RdB (R0 W) A k c.data ∧ (A = none → k = 0) := by
  have hl : cs.length = 13 := (h.struct Tryd.underlying28).1.trans (by kernel_rfl)
  match cs, hl, h with
  | [c0, c1, c2, c3, c4, c5, c6, c7, c8, c9, c10, c11, c12], _, h =>
    obtain ⟨_, hf_⟩ := h.struct Tryd.underlying28
    have g_0 : Tr Tryd.prog W 5 [c0] := (show _ = [c0] by kernel_rfl) ▸ hf_ 0 _ rfl
    have g_c0 := g_0
    have g_1 : Tr Tryd.prog W 22 [c1] := (show _ = [c1] by kernel_rfl) ▸ hf_ 1 _ rfl
    have g_c1 := g_1
    have g_2 : Tr Tryd.prog W 23 [c2] := (show _ = [c2] by kernel_rfl) ▸ hf_ 2 _ rfl
    have g_c2 := g_2
    have g_3 : Tr Tryd.prog W 5 [c3] := (show _ = [c3] by kernel_rfl) ▸ hf_ 3 _ rfl
    have g_c3 := g_3
    have g_4 : Tr Tryd.prog W 25 [c4, c5] := (show _ = [c4, c5] by kernel_rfl) ▸ hf_ 4 _ rfl
    obtain ⟨_, hf_4_⟩ := g_4.struct Tryd.underlying25
    have g_4_0 : Tr Tryd.prog W 22 [c4] := (show _ = [c4] by kernel_rfl) ▸ hf_4_ 0 _ rfl
    have g_c4 := g_4_0
    have g_4_1 : Tr Tryd.prog W 22 [c5] := (show _ = [c5] by kernel_rfl) ▸ hf_4_ 1 _ rfl
    have g_c5 := g_4_1
    have g_5 : Tr Tryd.prog W 9 [c6] := (show _ = [c6] by kernel_rfl) ▸ hf_ 5 _ rfl
    have g_c6 := g_5
    have g_6 : Tr Tryd.prog W 25 [c7, c8] := (show _ = [c7, c8] by kernel_rfl) ▸ hf_ 6 _ rfl
    obtain ⟨_, hf_6_⟩ := g_6.struct Tryd.underlying25
    have g_6_0 : Tr Tryd.prog W 22 [c7] := (show _ = [c7] by kernel_rfl) ▸ hf_6_ 0 _ rfl
    have g_c7 := g_6_0
    have g_6_1 : Tr Tryd.prog W 22 [c8] := (show _ = [c8] by kernel_rfl) ▸ hf_6_ 1 _ rfl
    have g_c8 := g_6_1
    have g_7 : Tr Tryd.prog W 9 [c9] := (show _ = [c9] by kernel_rfl) ▸ hf_ 7 _ rfl
    have g_c9 := g_7
    have g_8 : Tr Tryd.prog W 22 [c10] := (show _ = [c10] by kernel_rfl) ▸ hf_ 8 _ rfl
    have g_c10 := g_8
    have g_9 : Tr Tryd.prog W 22 [c11] := (show _ = [c11] by kernel_rfl) ▸ hf_ 9 _ rfl
    have g_c11 := g_9
    have g_10 : Tr Tryd.prog W 26 [c12] := (show _ = [c12] by kernel_rfl) ▸ hf_ 10 _ rfl
    have g_c12 := g_10
    obtain ⟨n_c0, e_, b_c0⟩ := g_c0.u8 Tryd.underlying5; cases e_
    obtain ⟨n_c1, e_, b_c1⟩ := g_c1.u32 Tryd.underlying22; cases e_
    obtain ⟨n_c2, e_, b_c2⟩ := g_c2.u64 Tryd.underlying23; cases e_
    obtain ⟨n_c3, e_, b_c3⟩ := g_c3.u8 Tryd.underlying5; cases e_
    obtain ⟨n_c4, e_, b_c4⟩ := g_c4.u32 Tryd.underlying22; cases e_
    obtain ⟨n_c5, e_, b_c5⟩ := g_c5.u32 Tryd.underlying22; cases e_
    obtain ⟨n_c6, e_, b_c6⟩ := g_c6.str Tryd.underlying9; cases e_
    obtain ⟨n_c7, e_, b_c7⟩ := g_c7.u32 Tryd.underlying22; cases e_
    obtain ⟨n_c8, e_, b_c8⟩ := g_c8.u32 Tryd.underlying22; cases e_
    obtain ⟨n_c9, e_, b_c9⟩ := g_c9.str Tryd.underlying9; cases e_
    obtain ⟨n_c10, e_, b_c10⟩ := g_c10.u32 Tryd.underlying22; cases e_
    obtain ⟨n_c11, e_, b_c11⟩ := g_c11.u32 Tryd.underlying22; cases e_
    obtain ⟨A_c12, k_c12, l_c12, e_, r_c12, z_c12⟩ := g_c12.bytes Tryd.underlying26 Tryd.underlying5 (by kernel_rfl); cases e_
    exact ⟨⟨n_c0, n_c1, n_c2, n_c3, n_c4, n_c5, n_c6, n_c7, n_c8, n_c9, n_c10, n_c11, l_c12⟩, A_c12, k_c12, rfl, ⟨b_c0, b_c1, b_c2, b_c3, b_c4, b_c5, b_c7, b_c8, b_c10, b_c11⟩, r_c12, z_c12⟩
theorem wf_int {k : IntKind} {n : Int} (h : (Lit.int k n).wf = true) : k.min ≤ n ∧ n ≤ k.max := by
  simpa only [Lit.wf, Bool.and_eq_true, decide_eq_true_eq] using h
theorem okWide_agg {P : Program} {W : World} {r : Reach} {base : Nat} {t : TypeId} {v : Value} {fs : Array Field} (hu : P.underlying t = some (.struct fs)) (h : Value.okWide P W r base t v) : ∃ cs, v = .agg cs := by
  unfold Value.okWide at h
  simp only [hu] at h
  obtain ⟨cs, h1, _⟩ := h
  exact ⟨cs, h1⟩
theorem data_fits {H : Type} {enc : TypeId × Value → H} {W : World} {cs : Array Value} {d : DataW H} {ps : List MemPlace} (h : DataW.Trod enc Tryd.prog W 0 (fun _ => true) true 28 (.agg cs) d ps) (hz : ∀ n ∈ d.weights Tryd.prog 28, n ≤ reachBytes)
    {A : Option Addr} {len cap : Nat} (hc : (cs.toList.drop 12).take 1 = [.slice A len cap]) : len ≤ 140737488355328 := by
  obtain ⟨fu, h⟩ := h
  obtain ⟨xs, n, _, hx, _, hl, h3⟩ := DataW.trod_struct Tryd.underlying28 h
  injection hx with hd _
  subst hd
  have h4 := h3 10 _ rfl
  obtain ⟨x, hx10⟩ : ∃ x, xs[10]? = some x := ⟨_, List.getElem?_eq_getElem (by rw [hl]; decide)⟩
  rw [hx10] at h4
  have h4' : DataW.trod enc Tryd.prog W 0 (fun _ => true) true n 26 [.slice A len cap] = some x := by rw [← hc]; exact h4
  rcases DataW.trod_slice Tryd.underlying26 h4' with ⟨h5, _⟩ | ⟨a, len', cap', el, rest, m, _, h5, h6, _, _, _, h7, _⟩
  · injection h5 with h5 _; injection h5 with _ h5 _; omega
  · have hm : (((el.map (·.1)).length + (rest.map (·.1)).length) * Tryd.prog.bytesOf 5) ∈ DataW.weights Tryd.prog 28 (.agg (xs.map (·.1))) := by
      simp only [DataW.weights, Tryd.underlying28]
      refine DataW.weights_mem_each (j := 10) (t := 26) (d := x.1) rfl (by rw [List.getElem?_map, hx10]; rfl) _ ?_
      rw [h6]
      simp only [DataW.weights, Tryd.underlying26]
      exact List.mem_cons_self ..
    have h9 := hz _ hm
    rw [show Tryd.prog.bytesOf 5 = 1 by kernel_rfl, List.length_map, List.length_map] at h9
    simp only [reachBytes] at h9
    injection h5 with h5 _; injection h5 with _ h5 _
    omega
theorem rpcOnce_lifted (os : Os) (started : os.Started) (H : Type) (enc : TypeId × Value → H) :
    ReturnsInHanded {} Tryd.checked os 5 .any (fun w args => (Rows.rpcOnceSpec.pre enc Tryd.prog Tryd.f5 [] false w args ∧ laidMetH Tryd.prog listed w) ∧ sizedMet enc Tryd.prog Tryd.f5 (OpenSpec.ofChange Rows.rpcOnceSpec) false w args)
      (Rows.rpcOnceSpec.post enc Tryd.prog Tryd.f5 false true false false) := by
  refine returnsInHanded_of_change_and (C := Tryd.checked) (X := fun w _ => laidMetH Tryd.prog listed w) (fun _ _ _ hh h => h.of_heap hh) own started (by kernel_rfl) Tryd.func5
    (ChangeSpec.witness_shaped (enc := enc) (C := Tryd.checked) (os := os) (X := fun w _ => laidMetH Tryd.prog listed w) false (laidW os) #[.agg #[.int .u8 0, .int .u32 0, .int .u64 0, .int .u8 0, .int .u32 0, .int .u32 0, .string ByteArray.empty, .int .u32 0, .int .u32 0, .string ByteArray.empty, .int .u32 0, .int .u32 0, .slice none 0 0], .int .u16 0] 8 rfl (World.shaped_of_RefB (by kernel_rfl) (by kernel_rfl)) (by kernel_rfl) (by kernel_rfl) (by kernel_rfl) (laid_met os _)) ?_
  intro W base args ds gs before hval0 hW _ hsz hL _
  have hval : ∀ (j : Nat) t v, Tryd.f5.params[j]? = some t → args[j]? = some v → Value.okWide Tryd.prog W .any base t v := hval0
  have hW' := hW
  obtain ⟨p, q, hA0, hV, rfl, hfz, hnd⟩ := hW
  have hA : DataW.TrodAll enc Tryd.prog W 0 (fun _ => true) true Tryd.f5.params.toList args.toList ds p := hA0
  rw [Tryd.params5] at hA hval
  obtain ⟨v0, vs0, d0, ds0, p0, q0, hargs, rfl, rfl, h0, r0⟩ := trodAll_cons hA
  obtain ⟨v1, vs1, d1, ds1, p1, q1, rfl, rfl, rfl, h1, r1⟩ := trodAll_cons r0
  obtain ⟨rfl, rfl, rfl⟩ := trodAll_nil r1
  obtain rfl : args = #[v0, v1] := by cases args; simp_all
  obtain ⟨rfl, rfl⟩ := trodVars_none hV
  have hT := tabs_met hL
  have k0 := h0
  have lt0 : ∀ x ∈ p0, x.block < W.heap.size := by obtain ⟨m, hm⟩ := k0; exact DataW.trod_lt m _ _ _ hm
  obtain ⟨cs0, rfl⟩ := okWide_agg Tryd.underlying28 (hval 0 28 v0 rfl rfl)
  have t0 := Tr.of h0
  obtain ⟨c, A, k, hcs, wf, hd, _⟩ := open_call t0
  obtain rfl : cs0 = #[.int .u8 c.client, .int .u32 c.inc, .int .u64 c.seq, .int .u8 c.kind, .int .u32 c.ino, .int .u32 c.gen, .string c.name, .int .u32 c.toIno, .int .u32 c.toGen, .string c.toName, .int .u32 c.off, .int .u32 c.size, .slice A c.data.length k] := by cases cs0; simp_all [Value.cells]
  have hfit : c.data.length ≤ 140737488355328 := data_fits h0 (fun n hn => by have := List.all_eq_true.1 hsz n (DataW.weights_mem_each (j := 0) (t := 28) (d := d0) rfl rfl n hn); simpa using this) rfl
  have k1 := h1
  have lt1 : ∀ x ∈ p1, x.block < W.heap.size := by obtain ⟨m, hm⟩ := k1; exact DataW.trod_lt m _ _ _ hm
  obtain ⟨a1, rfl, rfl, rfl, w1⟩ := open_int Tryd.underlying49 (hval 1 49 v1 rfl rfl) h1
  refine Calls.mono (rpc_once c A k a1 wf hd hT hfit (wf_int w1) (sat0 W)) fun e W' he => ?_
  obtain ⟨v, rfl, R', hle, rfl, X⟩ := he
  have bel := below_of hle X
  exact ⟨_, rfl, _, _, _, [], _, [], hW', trodAll_mk1 (shut_bool Tryd.underlying4 _), (trodAll_cons_mk (Below.trod laidOut (by kernel_rfl) (of_decide_eq_true (by kernel_rfl)) k0 bel lt0) (trodAll_cons_mk (Below.trod laidOut (by kernel_rfl) (of_decide_eq_true (by kernel_rfl)) k1 bel lt1) trodAll_mk0)), rfl, bel.frame _, fun h => by cases h⟩
theorem rpcOnce_row : Rows.RpcOnceSaid :=
  OpenClaim.holds_of_wide 5 Tryd.f5 rfl rfl rfl rfl rfl rfl rfl ⟨rfl, rfl, rfl, rfl, rfl⟩ rfl rfl rfl rfl rfl (by kernel_rfl) Tryd.func5 (by kernel_rfl)
    (of_decide_eq_true (by kernel_rfl)) (by unfold Func.isWrapper; first | (rw [if_pos (by decide +kernel)]; kernel_rfl) | (rw [if_neg (by decide +kernel)]; exact ⟨rfl, rfl⟩))
    (fun os started H enc _ => rpcOnce_lifted os started H enc)
theorem rpcOnce_holds : Rows.RpcOnceCardSaid :=
  Claim7.holds_tied_plain_at .later [] [.data, .pinned] true (true, "6cbc3b8be30cd846fc6c757b14bc11082197b74bd668b88c7d2210c54e6d7f99") true
    rpcOnce_row (fun _ h => by cases h) (by kernel_rfl) (fun _ h => by cases h) rpcOnce_row_tie rfl ⟨rfl, rfl⟩ (by kernel_rfl) rfl
    (fun f fn hf hfn => by
      obtain rfl : f = 5 := Option.some.inj ((show Tryd.prog.funcNamed "wharfage/wharfagelaw20.RpcOnce" = some 5 by kernel_rfl).symm.trans hf) |>.symm
      obtain rfl : fn = Tryd.f5 := (Option.some.inj (Tryd.func5.symm.trans hfn)).symm
      exact ⟨by kernel_rfl, fun j t ht => by
        rw [Tryd.params5] at ht
        have hm : t ∈ [28, 49] := by simpa using Array.mem_of_getElem? ht
        have hall : ([28, 49].all fun u => !Tryd.prog.wantsStandIn u) = true := by kernel_rfl
        exact (show Tryd.prog.wantsStandIn t = false by simpa using List.all_eq_true.1 hall t hm)⟩)
    (by kernel_rfl)
#print axioms rpcOnce_holds
end Go.Proofs.YtldnpolfcickaaaDoor
