/- FnExactDeedsOf, the tied card: for every text the program's DeedsOf reads the deeds that the reference reads. Conditions: the package-level variables that the row lists start as the program's text lays them (the card ties them). -/
import Derived.Test.YtameehmkoglkeaaDoorRows
import Derived.Test.YtameehmkoglkeaaDoorCards
import Derived.Test.YtameehmkoglkeaaDoorTie
import Derived.WalkKit
import Derived.ProofKit
import Derived.OpenShut
import Derived.ShutString
import Derived.ChangeOld
import Derived.Below
import Derived.Carry
import Derived.SizedLaws
import Derived.Deep.DeepHandedRow
import Derived.SevenTiedAt
import Derived.Lib.LaidTab
import Derived.LaidLaws
import Derived.Stop.LaidErr
import Derived.Shelf.Vars
import GoSem.PinnedTables
import Derived.Test.YtameehmkoglkeaaDoorFnExactDeedsOfSound
import Derived.Test.YtameehmkoglkeaaDoorFnExactDeedsOfPState
set_option linter.all false
namespace Go.Proofs.YtameehmkoglkeaaDoor.fnExactDeedsOf
open Go Go.ChangeShapes Go.WideShapes Go.ChangeAt Go.RowKit Go.Eng
set_option linter.unusedVariables false
theorem own : ownKnob Tryd.prog.godebug = none := by kernel_rfl
theorem laidOut : laidOutB Tryd.prog = true := by kernel_rfl
theorem laidTail {P : Program} {x : String × DataW Unit} {r : List (String × DataW Unit)} {w : World} (h : laidMet P (x :: r) w) : laidMet P r w := by
  obtain ⟨ps, h1, h2, h3⟩ := h
  obtain ⟨g, t, cs, fuel, p, q, hg, ht, hv, hd, hr, rfl⟩ := h1
  exact ⟨q, hr, (List.nodup_append.1 h2).2.1, fun b off hm => h3 b off (List.mem_append_right _ hm)⟩
noncomputable def low : Nat := (World.holding Tryd.prog default ⟨#[], #[], []⟩).heap.size
theorem rowE (u : TypeId) (h : Tryd.prog.typeName? 3 u = some "*errors.errorString") : u = 197 :=
  typeName_ptr_named (nm := "errors.errorString") (by rw [show "*" ++ "errors.errorString" = "*errors.errorString" from by decide]; kernel_rfl) (by kernel_rfl) (by decide) u (by rw [show "*" ++ "errors.errorString" = "*errors.errorString" from by decide]; exact h)
noncomputable def laidWorld (os : Os) : World :=
  { World.holding Tryd.prog os ⟨#[], #[], []⟩ with heap := ((((((((World.holding Tryd.prog os ⟨#[.cells #[.string ⟨#[118, 97, 108, 117, 101, 32, 111, 117, 116, 32, 111, 102, 32, 114, 97, 110, 103, 101]⟩] 199, .cells #[.string ⟨#[105, 110, 118, 97, 108, 105, 100, 32, 115, 121, 110, 116, 97, 120]⟩] 199], #[], []⟩).heap.modify 6 fun
      | .cells _ t frozen => .cells (([0, 1, 28, 2, 29, 14, 24, 3, 30, 22, 20, 15, 25, 17, 4, 8, 31, 27, 13, 23, 21, 19, 16, 7, 26, 12, 18, 6, 11, 5, 10, 9] : List Int).map fun z => Value.int .u8 z).toArray t frozen
      | o => o).modify 7 fun
      | .cells _ t frozen => .cells (([0, 1, 56, 2, 57, 49, 28, 3, 61, 58, 42, 50, 38, 29, 17, 4, 62, 47, 59, 36, 45, 43, 51, 22, 53, 39, 33, 30, 24, 18, 12, 5, 63, 55, 48, 27, 60, 41, 37, 16, 46, 35, 44, 21, 52, 32, 23, 11, 54, 26, 40, 15, 34, 20, 31, 10, 25, 14, 19, 9, 13, 8, 7, 6] : List Int).map fun z => Value.int .u8 z).toArray t frozen
      | o => o).modify 3 fun
      | .cells _ t frozen => .cells (([1, 10, 100, 1000, 10000, 100000, 1000000, 10000000, 100000000, 1000000000, 10000000000, 100000000000, 1000000000000, 10000000000000, 100000000000000, 1000000000000000, 10000000000000000, 100000000000000000, 1000000000000000000, 10000000000000000000] : List Int).map fun z => Value.int .u64 z).toArray t frozen
      | o => o).modify 5 fun
      | .cells _ t frozen => .cells (([128, 191, 160, 191, 128, 159, 144, 191, 128, 143, 0, 0, 0, 0, 0, 0, 0, 0, 0, 0, 0, 0, 0, 0, 0, 0, 0, 0, 0, 0, 0, 0] : List Int).map fun z => Value.int .u8 z).toArray t frozen
      | o => o).modify 4 fun
      | .cells _ t frozen => .cells (Go.Pinned.utf8FirstZ.map fun (z : Nat) => Value.int .u8 (Int.ofNat z)).toArray t frozen
      | o => o).modify 2 fun
      | .cells _ t frozen => .cells ([Value.iface 197 (.pointer (some ⟨low + 0, 0, none⟩))]).toArray t frozen
      | o => o).modify 1 fun
      | .cells _ t frozen => .cells ([Value.iface 197 (.pointer (some ⟨low + 1, 0, none⟩))]).toArray t frozen
      | o => o) }
theorem laid_met (os : Os) (args : Array Value) : laidMet Tryd.prog Rows.fnExactDeedsOfRow.laid ((laidWorld os).forCall (fun _ _ => 0) ⟨#[], args, []⟩).memory :=
  laidMet_of_run' 8 (by kernel_rfl) (by kernel_rfl)
theorem witness_row (os : Os) {H : Type} (enc : TypeId × Value → H) :
    (OpenSpec.ofChange Rows.fnExactDeedsOfSpec).preRow enc Tryd.prog Tryd.f7 Rows.fnExactDeedsOfRow.domain false Rows.fnExactDeedsOfRow.laid ((laidWorld os).forCall (fun _ _ => 0) ⟨#[], #[.string ByteArray.empty], []⟩).memory #[.string ByteArray.empty] := by
  obtain ⟨x, hx⟩ : ∃ x, DataW.whole enc Tryd.prog ((laidWorld os).forCall (fun _ _ => 0) ⟨#[], #[.string ByteArray.empty], []⟩).memory Tryd.f7.params.toList (OpenSpec.ofChange Rows.fnExactDeedsOfSpec).vars false (#[.string ByteArray.empty] : Array Value).toList 8 = some x := Option.isSome_iff_exists.1 (by kernel_rfl)
  exact OpenSpec.preRow_of_cond 8 hx rfl (fun k hk => by cases hk) (by kernel_rfl) (laid_met os _)
theorem pow : Tryd.prog.globalNamed "internal/strconv.uint64pow10" = some 3 := by kernel_rfl
set_option maxRecDepth 100000 in
theorem lifted (os : Os) (started : os.Started) (H : Type) (enc : TypeId × Value → H) (F : Stop.Interp) :
    ReturnsInHanded {} Tryd.checked os 7 .any ((OpenSpec.ofChange Rows.fnExactDeedsOfSpec).preRow enc Tryd.prog Tryd.f7 Rows.fnExactDeedsOfRow.domain false Rows.fnExactDeedsOfRow.laid) (((OpenSpec.ofChange Rows.fnExactDeedsOfSpec).at F).post enc Tryd.prog Tryd.f7 false true false false) := by
  refine returnsInHanded_of_row (C := Tryd.checked) (s := OpenSpec.ofChange Rows.fnExactDeedsOfSpec) own started (by kernel_rfl) Tryd.func7
    (witness_row_at (enc := enc) (C := Tryd.checked) false (laidWorld os) #[.string ByteArray.empty] rfl (by kernel_rfl) (by kernel_rfl) (by kernel_rfl) (witness_row os enc)) ?_
  intro W base args ds gs before hval0 hW _ _ _ hL hsh _
  have hL0 : laidMet Tryd.prog Rows.fnExactDeedsOfRow.laid W := hL
  have htab : Lib.TabIs Tryd.prog W "internal/strconv.uint64pow10" .u64 Lib.pow10Tab := Lib.tabIs_of_head pow (t := 189) (e := 178) (n := 20) (by kernel_rfl) Tryd.underlying189 Tryd.underlying178 (by kernel_rfl) (by kernel_rfl) (laidTail (laidTail hL0))
  have hpow : 3 < W.heap.size := by
    have htab := htab
    unfold Lib.TabIs World.var? at htab
    rw [pow] at htab
    rcases Nat.lt_or_ge 3 W.heap.size with h | h
    · exact h
    · simp only [Option.bind_some, Array.getElem?_eq_none h] at htab; cases htab
  have hmax : ∃ m, W.cell? ⟨0, 0, none⟩ = some (.int .i64 m) := cell_of_shapedOpen_int (P := Tryd.prog) (g := 0) (t := 3) (zero := #[.int .i64 0]) hsh (of_decide_eq_true (by kernel_rfl)) (by kernel_rfl) rfl (by kernel_rfl) (by kernel_rfl) Tryd.underlying3
  have her1 : ∃ te pe, W.cell? ⟨1, 0, none⟩ = some (.iface te pe) := by
    have hg : Tryd.prog.globalNamed "strconv.ErrSyntax" = some 1 := by kernel_rfl
    obtain ⟨a, s, hv, -, -, -⟩ := laid_sentinel (laidTail (laidTail (laidTail (laidTail (laidTail hL0))))) hg (ti := 110) (by kernel_rfl) Tryd.underlying110 rowE Tryd.underlying197 Tryd.underlying199 (ts := 9) rfl rfl Tryd.underlying9 (by kernel_rfl) (by kernel_rfl)
    have h0 := World.var?_cell hg hv 0
    exact ⟨_, _, by simpa using h0⟩
  have her2 : ∃ te pe, W.cell? ⟨2, 0, none⟩ = some (.iface te pe) := by
    have hg : Tryd.prog.globalNamed "strconv.ErrRange" = some 2 := by kernel_rfl
    obtain ⟨a, s, hv, -, -, -⟩ := laid_sentinel (laidTail (laidTail (laidTail (laidTail hL0)))) hg (ti := 110) (by kernel_rfl) Tryd.underlying110 rowE Tryd.underlying197 Tryd.underlying199 (ts := 9) rfl rfl Tryd.underlying9 (by kernel_rfl) (by kernel_rfl)
    have h0 := World.var?_cell hg hv 0
    exact ⟨_, _, by simpa using h0⟩
  have hgb : ∀ b ∈ M.E.gg.gb, b < W.heap.size := fun b hb => by
    have hb : b ∈ [3, 0, 1, 2] := hb
    simp only [List.mem_cons, List.not_mem_nil, or_false] at hb
    rcases hb with rfl | rfl | rfl | rfl
    · exact hpow
    · obtain ⟨_, h⟩ := hmax; exact World.block_lt_of_cell? _ _ h
    · obtain ⟨_, _, h⟩ := her1; exact World.block_lt_of_cell? _ _ h
    · obtain ⟨_, _, h⟩ := her2; exact World.block_lt_of_cell? _ _ h
  have hW' := hW
  obtain ⟨p, q, hA0, hV, rfl, hfz, hnd⟩ := hW
  have hA : DataW.TrodAll enc Tryd.prog W 0 (fun _ => true) true Tryd.f7.params.toList args.toList ds p := hA0
  have hcalls := law_callsG (E := M.E) M.hTy M.hCode M.hLoops M.hmix M.hRd (f := 7) (by kernel_rfl) (tys := (.cons .str .nil)) (by kernel_rfl) (m := .ro) (by kernel_rfl) rfl (by kernel_rfl) (fun a ha => M.law_DeedsOf a (ha.1)) (by kernel_rfl) hA (base := base) (fun j t v hj hv => hval0 j t v (by simpa using hj) (by simpa using hv)) ⟨htab, hmax, her1, her2⟩ hgb
  clear hval0 hA0
  rw [Tryd.params7] at hA
  obtain ⟨v0, vs0, d0, ds0, p0, q0, hargs, rfl, rfl, h0, r0⟩ := trodAll_cons hA
  obtain ⟨rfl, rfl, rfl⟩ := trodAll_nil r0
  obtain rfl : args = #[v0] := by cases args; simp_all
  obtain ⟨rfl, rfl⟩ := trodVars_none hV
  have lt0 : ∀ x ∈ p0, x.block < W.heap.size := by obtain ⟨m, hm⟩ := h0; exact DataW.trod_lt m _ _ _ hm
  refine Calls.mono (show Calls Tryd.prog 7 #[v0] W _ from hcalls) fun e W' ⟨he, bel⟩ => ?_
  subst he
  exact ⟨_, rfl, _, _, _, [], _, [], hW', trodAll_mk1 (shut_bool Tryd.underlying4 _), (trodAll_cons_mk (Below.trod laidOut (by kernel_rfl) (of_decide_eq_true (by kernel_rfl)) h0 bel lt0) trodAll_mk0), rfl, bel.frame _, fun h => by cases h⟩
theorem j1 : Rows.fnExactDeedsOfRow.wf (OpenSpec.ofChange Rows.fnExactDeedsOfSpec) = true := by kernel_rfl
theorem j3 : mapsRowed Tryd.prog = true := by kernel_rfl
theorem j10 : (Rows.fnExactDeedsOfRow.inPlace == Tryd.prog.inPlace 7) = true := by kernel_rfl
theorem j11 : (Rows.fnExactDeedsOfRow.unfollowed == Tryd.prog.unfollowed 7) = true := by kernel_rfl
theorem j12 : (Rows.fnExactDeedsOfRow.recurses == Tryd.prog.recurses 7) = true := by kernel_rfl
theorem j13 : (Rows.fnExactDeedsOfRow.named == Tryd.prog.varsNamed 7) = true := by kernel_rfl
theorem j17 : (Rows.fnExactDeedsOfRow.loops == (Tryd.f7.params.toList ++ Rows.fnExactDeedsOfSpec.plain.varTypes Tryd.prog).any (Tryd.prog.loopsFrom ·)) = true := by kernel_rfl
theorem closed : joinedFacts Tryd.pinned.checked.prog 7 Tryd.f7 Rows.fnExactDeedsOfSpec Rows.fnExactDeedsOfRow = true := by
  unfold joinedFacts
  simp only [Bool.and_eq_true]
  refine ⟨⟨⟨⟨⟨⟨⟨⟨⟨⟨⟨⟨⟨⟨⟨⟨⟨⟨⟨⟨⟨⟨⟨⟨⟨⟨⟨⟨⟨⟨⟨?_, ?_⟩, ?_⟩, ?_⟩, ?_⟩, ?_⟩, ?_⟩, ?_⟩, ?_⟩, ?_⟩, ?_⟩, ?_⟩, ?_⟩, ?_⟩, ?_⟩, ?_⟩, ?_⟩, ?_⟩, ?_⟩, ?_⟩, ?_⟩, ?_⟩, ?_⟩, ?_⟩, ?_⟩, ?_⟩, ?_⟩, ?_⟩, ?_⟩, ?_⟩, ?_⟩, ?_⟩
  · exact j1
  · exact laidOut
  · exact j3
  · kernel_rfl
  · kernel_rfl
  · kernel_rfl
  · kernel_rfl
  · kernel_rfl
  · kernel_rfl
  · exact j10
  · exact j11
  · exact j12
  · exact j13
  · kernel_rfl
  · kernel_rfl
  · kernel_rfl
  · exact j17
  · kernel_rfl
  · kernel_rfl
  · kernel_rfl
  · kernel_rfl
  · kernel_rfl
  · kernel_rfl
  · kernel_rfl
  · kernel_rfl
  · kernel_rfl
  · kernel_rfl
  · kernel_rfl
  · kernel_rfl
  · kernel_rfl
  · kernel_rfl
  · kernel_rfl
theorem over : Rows.fnExactDeedsOfRow.holds Tryd.pinned (OpenSpec.ofChange Rows.fnExactDeedsOfSpec) :=
  OpenClaim.holds_of_cond 7 Tryd.f7 rfl rfl rfl rfl rfl rfl rfl ⟨rfl, rfl, rfl, rfl, rfl⟩ rfl rfl rfl rfl rfl (by kernel_rfl) Tryd.func7 closed
    (of_decide_eq_true (by kernel_rfl)) (by unfold Func.isWrapper; first | (rw [if_pos (by decide +kernel)]; kernel_rfl) | (rw [if_neg (by decide +kernel)]; exact ⟨rfl, rfl⟩))
    (fun os started H enc _ F0 => by rw [OpenClaim.pre_eq_preRow]; exact lifted os started H enc F0)
theorem stands : (Tryd.f7.params.toList.all fun t => !Tryd.prog.wantsStandIn t) = true := by kernel_rfl
theorem proved : Rows.FnExactDeedsOfCardSaid :=
  Claim7.holds_tied_plain_at .later [] [.data, .data, .data, .data, .sentinel, .sentinel, .pinned] true (true, "9cacbfc7475de6e871f66c791b3ab4711d335ca6c2e165952b4bf399add28e3e") true
    over (fun _ h => by cases h) (by kernel_rfl) (fun _ h => by cases h) fnExactDeedsOf_row_tie rfl ⟨rfl, rfl⟩ (by kernel_rfl) rfl
    (fun f fn hf hfn => by
      obtain rfl : f = 7 := Option.some.inj ((show Tryd.prog.funcNamed "loop.example/g00487/laws.FnExactDeedsOf" = some 7 by kernel_rfl).symm.trans hf) |>.symm
      obtain rfl : fn = Tryd.f7 := (Option.some.inj (Tryd.func7.symm.trans hfn)).symm
      refine ⟨by kernel_rfl, fun j t ht => ?_⟩
      have := List.all_eq_true.1 stands t (List.mem_of_getElem? (by simpa using ht))
      have e : Tryd.prog.wantsStandIn t = false := by simpa using this
      exact e)
    (by kernel_rfl)
#print axioms proved
end Go.Proofs.YtameehmkoglkeaaDoor.fnExactDeedsOf
namespace Go.Proofs.YtameehmkoglkeaaDoor
/-- The card, under a short name, for the claim. -/
theorem fnExactDeedsOf_holds : Rows.FnExactDeedsOfCardSaid := fnExactDeedsOf.proved
end Go.Proofs.YtameehmkoglkeaaDoor
