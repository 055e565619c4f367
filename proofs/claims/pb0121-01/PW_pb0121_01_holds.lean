import PyProof.Rows.All
import Wide.All
import OpenK.AllK
import Wide.FinOn
import Lean
import PySem.Challenge.RW_pb0121_01
set_option Elab.async false
set_option maxRecDepth 100000
set_option maxHeartbeats 0
set_option linter.unusedVariables false
section J_Top
open PySem PySem.Calls PySem.W PyProof.Rows
set_option Elab.async false
set_option maxRecDepth 100000
set_option maxHeartbeats 0
namespace Mine
theorem hushL {P : Prop} (h : let G := P; G) : P := h
/-- the built-ins that hold a bytearray while they run -/
noncomputable def badId (id : String) : Bool := ["bytearray.__contains__", "bytearray.__mod__", "bytearray.__rmod__", "_struct.pack_into.held", "bytearray.find.held"].contains id || Builtin.Bytes.decodersThatHold.contains id
noncomputable def badC : Code → Bool
  | .builtin id _ => badId id
  | _ => false
/-- no frame of the stack holds a bytearray -/
noncomputable def NoDec (Γ : Ctx) : Prop := badC Γ.code = false ∧ ∀ x ∈ Γ.below, badC x.1 = false
section
variable {α : Type} {M : Model} {A : Around} {s : Shared}
/-- as «wpAny», for stacks on which no frame holds a bytearray; no exception gets out -/
noncomputable def wpR (M : Model) (A : Around) (t : Sem α) (Q : α → Shared → Prop) (s : Shared) : Prop :=
  ∀ Γ p, Γ.In A → NoDec Γ → Sem.wp M Γ t (fun a _ s' => Q a s') (fun _ _ _ => False) p s
end
noncomputable abbrev WalkR (q : Program) (loose : List Str) (XP : (Str → Option Value) → Heap → Prop) (YP : World → Heap → Prop) (r : RowW) (d : DefRec) (kwd : List (Str × Expr)) : Prop :=
  ∀ (w : World) (s₀ s₁ : Shared) (mg mb : Str → Option Value), Ground q loose r.records XP w s₀ mg mb s₁.heap → YP w s₁.heap → ∀ (a : Addr) (o : Obj) (pm cd doc dV kV : Value), s₁.heap.get? a = some o →
    o.data = .func { docDef d.name d.params d.body d.scope pm cd doc with defaults := dV, kwdefaults := kV } → s₁.heap.CodeRec cd d.name → Dflts mg s₁.heap d.params kwd dV kV → mg d.name = some (.ref a) → s₁.gens = #[] →
    ∀ (args : List WData) (vals : List Value) (as : List Addr), r.claim.pre args = true → WData.layableAll args = true → ReadsAllW r.records (classAt s₀.heap) s₁.heap vals args as → WellAll w.params s₁.heap vals args → (∀ a ∈ as, (a == sysModules) = false) →
      wpR (model r.prog w) callerA (PySem.call (.ref a) vals) (fun v s' => GoodWG r.claim (classAt s₀.heap) (ExcName.means s₀.heap) args s₁ (.ok (.ret v)) s') s₁
/-- the claim's caller, walked -/
theorem codeR_run {M : Model} {s₁ : Shared} {f : Value} {mg : Str → Option Value} {nm : Str} {vs : List Value} {G : Value → Shared → Prop} {R : Result → Shared → Prop} (hf : mg nm = some f) (hmg : s₁.heap.Ns mainGlobals mg)
    (hcode : wpR M callerA (PySem.call f vs) G s₁) (hR : ∀ v s', G v s' → R (.ok (.ret v)) s' ∧ leftWithCleanup s'.gens = false) :
    Sem.wp M ⟨.builtin "claim.caller" {}, none, none, [], none⟩ (do match ← nsGet mainNs nm with
      | some f => do ret (← PySem.call f vs)
      | none => unsupported "claim.caller:no-such-global")
      (Sem.finPost M ⟨.builtin "claim.caller" {}, none, none, [], none⟩ fun x s' => R x s' ∧ leftWithCleanup s'.gens = false)
      (fun e _ s' => R (.error e) s' ∧ leftWithCleanup s'.gens = false) default s₁ := by
  have hnd : NoDec (⟨.builtin "claim.caller" {}, none, none, [], none⟩ : Ctx) := ⟨by show badId "claim.caller" = false; decide +kernel, fun x hx => nomatch hx⟩
  have h0 : wpAny M callerA (nsGet mainNs nm) (fun x s' => x = some f ∧ s' = s₁) (fun _ _ => False) s₁ := wpAny_nsGet hmg (by rw [hf]; exact ⟨rfl, rfl⟩)
  rw [Sem.wp_bind']
  refine Sem.wp_mono _ _ _ (fun x p' s' h' => ?_) (fun _ _ _ h' => h'.elim) _ _ (h0 _ default caller_in)
  obtain ⟨rfl, rfl⟩ := h'
  dsimp only
  rw [Sem.wp_bind']
  exact Sem.wp_mono _ _ _ (fun v p'' s' g => hR _ _ g) (fun _ _ _ h' => h'.elim) _ _ (hcode _ p' caller_in hnd)
/-- a call of the claim's caller that ends by a value -/
theorem callFromR {r : RowW} {w : World} {s : Shared} {free : Addr → Prop} {gens : Prop} {kept : Heap → Prop} (hz : s.asleep) (hgens : s.gens = #[]) {f : Value} {mg : Str → Option Value} (hf : mg r.name = some f)
    (hsame : r.claim.same = none) (hwi : r.claim.within = []) (hi : ∀ a b, r.claim.ident a b = true)
    (hspec : ∀ args, r.claim.pre args = true → WData.layableAll args = true → ∀ ord : List DictEntry → List DictEntry, (∀ l, (ord l).Perm l) →
      ∃ vs s₁ as, layAllW r.claim.records (classAt s.heap) w.params ord args s = some (vs, s₁) ∧ s₁.heap.Ns mainGlobals mg ∧ Laid r.records w s s₁ args vs as ∧
        wpR (model r.prog w) callerA (PySem.call f vs) (fun v s' => GoodWG r.claim (classAt s.heap) (ExcName.means s.heap) args s₁ (.ok (.ret v)) s') s₁ ∧
        (∀ h', OldK s₁.heap h' → kept h')) :
    r.claim.CallFrom (fun vs => ⟨do match ← nsGet mainNs r.name with
      | some f => do ret (← PySem.call f vs)
      | none => unsupported "claim.caller:no-such-global", .builtin "claim.caller" {}, default, []⟩) w free gens kept s := by
  intro args hpre hlay ord hord
  refine hushL ?_
  intro hGG
  obtain ⟨vs, s₁, as, hlaid, hmg, L, hcode, hkept⟩ := hspec args hpre hlay ord hord
  k_unfold
  clear hGG
  have hal := layAllW_rest _ _ _ hlaid
  refine hushL ?_
  intro hGG
  obtain ⟨k, x, s', s'', hsched, hrun, hfo, ⟨hcase, hos, hkp⟩⟩ := wp_halts_full (M := model r.claim.prog w) (R := fun x s' => r.claim.Ends s args vs s₁ x s' ∧ s'.os = s.os ∧ kept s'.heap) (Shared.asleep_of_life hal.2.2.2 hz)
    (codeR_run hf hmg hcode fun _ _ g => ⟨let z := GoodWG.laid (c := r.claim) hsame hwi hi L g; ⟨z.1, z.2.1, hkept _ g.2.1⟩, leftWithCleanup_false_of_bare (GoodWG.laid (c := r.claim) hsame hwi hi L g).2.2⟩)
  k_unfold
  clear hGG
  obtain ⟨eh, _, _, eo, _⟩ := Shared.forget_eq hfo
  have hcase := hcase.congr eh
  rw [← eh] at hkp
  rw [← eo] at hos
  have hlife : s''.heap.life = s.heap.life := (runN_life _ _ _ hrun).trans hal.2.2.2
  refine ⟨vs, s₁, hlaid, k, _, s'', hsched, ?_, (fun _ i x hx => by rw [hgens] at hx; simp at hx), hkp, by rw [hlife], Shared.rest_eq hos⟩
  rcases hcase with ⟨v, rfl, d1, d2, d3, d4, d5⟩ | ⟨e, ob, cls, rfl, d1, d2, d3, d4, d5⟩
  · exact .inl ⟨v, rfl, d1, d2, d3, fun b o y _ => d4 b o y, d5⟩
  · exact .inr ⟨e, ob, cls, rfl, d1, d2, d3, d4, fun b o y _ => d5 b o y⟩
end Mine
namespace Mine
/-- the head, for a walk that knows of the stack that no frame on it holds a bytearray -/
theorem holdsR {r : OpenRow} {q : Program} {loose : List Str} {Xt : Shared → Bool} {XP : (Str → Option Value) → Heap → Prop} {α : Type} {Yf : Shared → α} {Ya : World → α} {YP : World → Heap → Prop} {d : DefRec} {kwd : List (Str × Expr)} {N : Nat}
    (left : LeftO r.prog q loose Xt Yf Ya N) (hY : ∀ w s, Yf s = Ya w → YP w s.heap) (hYk : ∀ w h h', YP w h → (∀ b o, h.get? b = some o → h'.get? b = some o) → YP w h')
    (hX : ∀ s, Xt s = true → XP (s.heap.nsMap mainGlobals) s.heap) (hXk : ∀ mg h h', XP mg h → (∀ b o, h.get? b = some o → h'.get? b = some o) → XP mg h')
    (hdef : defOf q r.name = some (d, kwd)) (hp : r.prog.theDef r.name = some (d.params, d.body, d.scope)) (hk : kwWritten? d.params.kwonlyargs d.params.kw_defaults = some kwd) (hRf : ∀ s, Xt s = true → RecFacts r.records s.heap) (hwr : (!r.writes || r.records.isEmpty) = true)
    (k1 : r.wellSaid = true) (ok : (chainsOk q && opensWell r.prog && (frees r.toRowW && r.within.isEmpty)) = true) (hb : r.prog.bare) (hw : r.toRowW.promised)
    (call : Mine.WalkR q loose XP YP r.toRowW d kwd) : r.Holds := by
  obtain ⟨ok, k5⟩ := Bool.and_eq_true_iff.mp ok
  obtain ⟨hch, o1⟩ := Bool.and_eq_true_iff.mp ok
  obtain ⟨k5, k6⟩ := Bool.and_eq_true_iff.mp k5
  obtain ⟨hsame, hu, ha, hap, hm⟩ := frees_parts k5
  refine ⟨k1, hw, ⟨hb, o1, by show List.map _ r.toRowW.makers = []; rw [hm]; rfl⟩, hw.witness, fun w => ⟨(left.behind hX hch w).1, fun s' hs' => ?_⟩⟩
  refine hushL ?_
  intro hGG
  obtain ⟨s₀, hf, hg0, s, hT, hz, hgens, hg, G00, y⟩ := (left.behind (XP := fun mg h => XP mg h ∧ RecFacts r.records h) (fun s hs => ⟨hX s hs, hRf s hs⟩) hch w).2 s' hs'
  k_unfold
  clear hGG
  have G0 : Ground q loose [] XP w s (s.heap.nsMap mainGlobals) (s.heap.nsMap builtinsNs) s.heap := ⟨G00.T, G00.B, G00.D, G00.TE, G00.TD, G00.W, G00.X.1, G00.cls, G00.has, G00.apart, G00.once, G00.K⟩
  have RF := G00.X.2
  refine ⟨s₀, hf, hg0, s, hT, fun n hn => by
    obtain rfl : n = r.name := by split at hn <;> simp_all
    exact pinned_of_view hg G0 hdef hp hk, RF.1, RF.2.1, ?_⟩
  have hgens : s.gens = #[] := Array.eq_empty_of_size_eq_zero (beq_iff_eq.mp hgens)
  have G : Ground q loose r.records XP w s _ _ s.heap := RF.ground G0
  have hi := ident_freeW hu ha hap
  have hwi : r.toRowW.claim.within = [] := List.isEmpty_iff.mp k6
  obtain ⟨f, hfn⟩ : ∃ f, s.heap.nsMap mainGlobals r.name = some f := by
    obtain ⟨a, o, pm, cd, doc, dV, kV, h1, _⟩ := G.fn hdef
    exact ⟨_, h1⟩
  refine Mine.callFromR (r := r.toRowW) hz hgens hfn hsame hwi hi fun args hpre hlay ord hord => ?_
  obtain ⟨⟨vs, s₁⟩, hlaid⟩ := Option.isSome_iff_exists.mp (layAllW_isSome (P := w.params) (ord := ord) G.has args r.args s (pre_splitW hpre).1)
  have keeps := layAllW_keeps _ _ _ hlaid
  have hal := layAllW_rest _ _ _ hlaid
  refine hushL ?_
  intro hGG
  obtain ⟨as, hrd, hin, hold⟩ := reads_layAllW hord _ _ _ hlaid hlay s₁.heap (fun _ _ e => e)
  k_unfold
  clear hGG
  have L : Laid r.records w s s₁ args vs as := ⟨⟨ord, hord, hlaid⟩, hrd, hin, hold, keeps, hal.1.trans hgens, hal.2.2.1⟩
  have G₁ := G.keeps hXk keeps
  refine hushL ?_
  intro hGG
  obtain ⟨a, o, pm, cd, doc, dV, kV, h1, h2, h3, h4, h5⟩ := G₁.fn hdef
  k_unfold
  clear hGG
  obtain rfl : f = .ref a := Option.some.inj (hfn.symm.trans h1)
  exact ⟨vs, s₁, as, hlaid, G₁.T.g, L, call w s s₁ _ _ G₁ (hYk _ _ _ (hY w s y) keeps) a o pm cd doc dV kV h2 h3 h4 h5 (defOf_name hdef ▸ h1) L.gens args vs as hpre hlay L.reads L.well (L.low G.low), fun h' K q => ⟨namesKept_of (s' := { s₁ with heap := h' }) hT hg _ keeps K.old, noTable (h := s.heap) (h' := h') hwr q⟩⟩
end Mine
namespace Mine.PySem.W
open _root_.PySem _root_.PySem.Calls _root_.PySem.W
/-- a stand-in by which the head's constants are made; it says nothing -/
theorem holds_open {r : OpenRow} {q : Program} {loose : List Str} {Xt : Shared → Bool} {XP : (Str → Option Value) → Heap → Prop} {α : Type} {Yf : Shared → α} {Ya : World → α} {YP : World → Heap → Prop} {d : DefRec} {kwd : List (Str × Expr)} {N : Nat}
    (left : False) (_ : ∀ w s, Yf s = Ya w → YP w s.heap) (_ : ∀ w h h', YP w h → (∀ b o, h.get? b = some o → h'.get? b = some o) → YP w h')
    (_ : ∀ s, Xt s = true → XP (s.heap.nsMap mainGlobals) s.heap) (_ : ∀ mg h h', XP mg h → (∀ b o, h.get? b = some o → h'.get? b = some o) → XP mg h')
    (_ : defOf q r.name = some (d, kwd)) (_ : r.prog.theDef r.name = some (d.params, d.body, d.scope)) (_ : kwWritten? d.params.kwonlyargs d.params.kw_defaults = some kwd) (_ : ∀ s, Xt s = true → RecFacts r.records s.heap) (_ : (!r.writes || r.records.isEmpty) = true)
    (_ : r.wellSaid = true) (_ : (chainsOk q && opensWell r.prog && (frees r.toRowW && r.within.isEmpty)) = true) (_ : r.prog.bare) (_ : True) (_ : True) : r.Holds := left.elim
end Mine.PySem.W
namespace Mine
theorem hd (h : False) : PySem.Challenge.rw_pb0121_01.Holds := by
  refine (?f : PySem.Challenge.rw_pb0121_01.Holds → PySem.Challenge.rw_pb0121_01.Holds) ?x
  case f => exact fun _ => h.elim
  case x =>
  have hF : False := ?hl
  rotate_left
  exact h
  w_on
  refine holds_law (False.elim h) fun said => ?_
  k_head
  all_goals trivial
end Mine
namespace Mine
noncomputable abbrev L9 : List Str := [Str.ofString "GitError", Str.ofString "OBJECT_MODES", Str.ofString "Tag", Str.ofString "MemoryFinder"]
noncomputable abbrev V9 : List (Str × WData) := [(Str.ofString "OBJECT_MODES", WData.tuple [WData.int 33188, WData.int 33261, WData.int 40960, WData.int 16384, WData.int 57344])]
noncomputable abbrev P9 : Program := PySem.Challenge.rw_pb0121_01.row.prog
noncomputable def keep9 : List Nat := (List.range 51).filter fun i => !([1, 20, 35, 38, 41].contains i)
noncomputable abbrev Q9 : Program := view P9 keep9
theorem view9 : hd.view_1 = Q9 := by kernel_rfl
noncomputable def as9 : List Addr := [2, 3, 15, 17, 18, 20, 21, 22, 29, 30, 32, 33, 35, 36, 37, 38, 39, 40, 43, 50, 51, 52, 55, 62, 63, 64, 67, 74, 75, 76, 79, 82, 83, 84, 86, 87, 89, 90, 91, 94, 95, 103, 104, 106, 107, 109, 110, 111, 113, 114, 116, 117, 118, 119, 120, 121, 122, 125, 126, 128, 129, 131, 132, 133, 135, 136, 138, 139, 147, 149, 150, 152, 153, 154, 156, 157, 159, 160, 161, 162, 163, 164, 165, 175, 177, 178, 180, 181, 182, 184, 185, 187, 188, 189, 191, 192, 194, 195, 196, 198, 199, 201, 202, 203, 204, 205, 206, 207, 210, 212, 213, 215, 216, 217, 219, 220, 222, 223, 231, 233, 234, 236, 237, 238, 240, 241, 243, 244, 245, 247, 248, 250, 251, 252, 253, 254, 255, 256, 259, 261, 262, 264, 265, 266, 268, 269, 271, 272, 273, 275, 276, 278, 279, 287, 289, 290, 292, 293, 294, 296, 297, 299, 300, 301, 303, 304, 306, 307, 308, 309, 310, 311, 312, 322, 323, 325, 326, 328, 329, 330, 332, 333, 335, 336, 337, 339, 340, 342, 343, 344, 345, 346, 347, 348, 351, 353, 354, 356, 357, 358, 360, 361, 363, 364, 372, 374, 375, 377, 378, 379, 381, 382, 384, 385, 386, 388, 389, 391, 392, 393, 395, 396, 398, 399, 400, 402, 403, 405, 406, 407, 409, 410, 412, 413, 414, 416, 417, 419, 420, 421, 423, 424, 426, 427, 428, 430, 431, 433, 434, 435, 437, 438, 440, 441, 442, 444, 445, 447, 448, 449, 451, 452, 454, 455, 456, 458, 459, 461, 462, 463, 465, 466, 468, 469, 470, 472, 473, 475, 476, 477, 479, 480, 482, 483, 484, 486, 487, 489, 490, 491, 492, 494, 495, 497, 498, 499, 500, 501, 502, 503, 506, 513, 515, 516, 518, 519, 520, 523, 524, 525, 526, 529, 530, 531, 532, 533, 536, 539, 540, 541, 543, 544, 546, 547, 548, 551, 552, 553, 555, 556, 558, 559, 560, 562, 563, 565, 566, 567, 569, 570, 572, 573, 574, 577, 578, 579, 581, 582, 584, 585, 586, 589, 590]
theorem as9_eq (P : Params) : as9 = (hd.heap_1 P).map (·.1) := by kernel_rfl
noncomputable abbrev Y9 (s : Shared) : List (Option Obj) := as9.map s.heap.get?
noncomputable abbrev RC9 := RowW.records (OpenRow.toRowW PySem.Challenge.rw_pb0121_01.row)
noncomputable abbrev X9 (s : Shared) : Bool := xlAt Q9 V9 s && recOk RC9 s
/-- as «topRun», the heap kept as a tree -/
noncomputable def topRunT (tb : String → Option Builtin) (p : Program) (w : World) (n₀ : Nat) (ann : Option Value) : Nat → SharedT → Thread → Option SharedT
  | 0, _, _ => none
  | n + 1, s, t => match through t with
    | true => some s
    | false => match stepOk n₀ ann t with
      | false => none
      | true => match stepT (denote tb) p w s t with
        | some (s', t') => topRunT tb p w n₀ ann n s' t'
        | none => none
theorem topRun_ofT {tb : String → Option Builtin} {p : Program} {w : World} {n₀ : Nat} {ann : Option Value} : ∀ {n : Nat} {s s' : SharedT} {t : Thread}, topRunT tb p w n₀ ann n s t = some s' → topRun tb p w n₀ ann n s.abs t = some s'.abs
  | 0, _, _, _, h => by cases h
  | n + 1, s, s', t, h => by
    unfold topRunT at h
    unfold topRun
    cases he : through t with
    | true => rw [he] at h; cases h; rfl
    | false =>
      rw [he] at h
      cases hk : stepOk n₀ ann t with
      | false => rw [hk] at h; cases h
      | true =>
        rw [hk] at h
        cases hs : stepT (denote tb) p w s t with
        | none => rw [hs] at h; cases h
        | some r => obtain ⟨s₂, t₂⟩ := r; rw [hs] at h; rw [stepT_spec hs]; exact topRun_ofT h
noncomputable def btOf : List Obj → Nat → BT → BT
  | [], _, t => t
  | o :: l, n, t => btOf l (n + 1) (t.ins n o)
noncomputable def S9 (w : World) (os : OsState) : SharedT := ⟨btOf (boot_heap w.params).objs.toList 0 BT.nil, (boot_heap w.params).objs.size, (boot_heap w.params).life, Array.mk [], boot_drawn, boot_toks, os⟩
noncomputable def R9 (p : Program) (w : World) (os : OsState) : Option SharedT := topRunT treeTable p w (boot_heap w.params).objs.size ((boot_heap w.params).nsMap mainGlobals "__annotations__") 4600 (S9 w os) (topStub p)
noncomputable def getT (s : SharedT) (a : Nat) : Option Obj := match Nat.blt a s.n with
  | true => alive ((s.tree.get a).getD default)
  | false => none
theorem getT_eq (s : SharedT) (a : Nat) : s.abs.heap.get? a = getT s a := by
  unfold getT
  show (absHeap s.tree s.n s.life).get? a = _
  cases h : Nat.blt a s.n with
  | true =>
    unfold Heap.get?
    rw [absHeap_at, if_pos (show a < s.n from Nat.le_of_ble_eq_true h)]
    show (match some ((s.tree.get a).getD default) with | some ⟨_, _, .freed, _⟩ => none | o => o) = alive ((s.tree.get a).getD default)
    obtain ⟨c, d, dt, sl⟩ := (s.tree.get a).getD default
    cases dt <;> rfl
  | false => exact abs_get_none fun q => by rw [show Nat.blt a s.n = true from Nat.ble_eq_true_of_le q] at h; cases h
noncomputable def Y9T (s : SharedT) : List (Option Obj) := as9.map (getT s)
theorem Y9T_eq (s : SharedT) : Y9 s.abs = Y9T s := by
  show as9.map s.abs.heap.get? = as9.map (getT s)
  exact List.map_congr_left fun a _ => getT_eq s a
noncomputable def F1 (p : Program) (w : World) (os : OsState) := (R9 p w os).map fun s => (staticsOk (importedModules p.main.body) (boot_heap w.params) s.abs.heap && namesBound p s.abs.heap && gensDone s.abs && laidKept (boot_heap w.params) s.abs.heap, Y9T s)
noncomputable def F2 (p q : Program) (rc : WRecords) (w : World) (os : OsState) := (R9 p w os).map fun s => (seen ((recsOf q).map (·.name)) (ownsOf q) [] { s.abs with gens := #[] }, s.abs.heap.bltView,
   s.abs.heap.keysOk (looseW q L9) ((recsOf q).map (·.name)) ((litsOf q).map (·.1)) ((clssOf q (looseW q L9)).map (·.name)) && s.abs.heap.accountedOkI (importedModules p.main.body) && s.abs.heap.isNs mainGlobals && s.abs.heap.isNs builtinsNs && tablesOk q s.abs.heap && (xlAt q V9 s.abs && recOk rc s.abs) && s.abs.gens.size == 0,
   tabsOk q s.abs)
noncomputable def F3 (p q : Program) (w : World) (os : OsState) := (R9 p w os).map fun s => (pinSeenD q (drecsOf q) s.abs, plainSeenE q (looseW q L9) s.abs, plainSeenD q L9 s.abs, wideSeen q s.abs, clsSeenW q L9 s.abs)
noncomputable def G2 (q : Program) (w : World) (_ : OsState) := some (expectedOf q, bltViewBooted, true, true)
noncomputable def G4 (q : Program) (w : World) (_ : OsState) := some (pinGoodD (drecsOf q), plainGoodE q (looseW q L9), plainGoodD q L9, wideGood q, clsGoodW q L9)
noncomputable def G3 (w : World) (_ : OsState) := some (true, (hd.heap_1 w.params).map fun p => some p.2)
noncomputable def both9 {α β γ δ ε : Type} (_ : α) (_ : β) (_ : γ) (_ : δ) (_ : ε) : Bool := true
theorem prime9 : both9 F1 F2 F3 G2 G4 = true := by k_qdec
theorem run1 (w : World) (os : OsState) : PySem.W.Fast.tw13983915388749079597 P9 w os = G3 w os := by kernel_rfl
theorem run2 (w : World) (os : OsState) : PySem.W.Fast.tw2325378937318870300 P9 Q9 RC9 w os = G2 Q9 w os := by kernel_rfl
theorem run3 (w : World) (os : OsState) : PySem.W.Fast.tw8254200991168589942 P9 Q9 w os = PySem.W.Fast.tw14967209212690604554 Q9 w os := by kernel_rfl
theorem seen_of {p q : Program} {rc : WRecords} {w : World} {os : OsState} (ha : F2 p q rc w os = G2 q w os) (hb : F3 p q w os = G4 q w os) {s : SharedT} (hs : R9 p w os = some s) :
    openSeen q L9 (importedModules p.main.body) (fun s => xlAt q V9 s && recOk rc s) true s.abs = openGood q L9 := by
  unfold F2 G2 at ha
  unfold F3 G4 at hb
  rw [hs] at ha hb
  have z := congr (congrArg (fun x y => (x.1, x.2.1, x.2.2.1, x.2.2.2, y)) (Option.some.inj ha)) (Option.some.inj hb)
  exact z
theorem abs9 (w : World) (os : OsState) : (S9 w os).abs = ⟨boot_heap w.params, Array.mk [], boot_drawn, boot_toks, os⟩ := by kernel_rfl
theorem isNs9 (w : World) : ((boot_heap w.params).isNs mainGlobals && (Array.mk ([] : List GenState)).size == 0) = true := by kernel_rfl
theorem opens9 : opening P9 = plainProg P9.main.scope.names := by kernel_rfl
theorem left_of {p q : Program} {loose : List Str} {Xt : Shared → Bool} {α : Type} {Yf : Shared → α} {YT : SharedT → α} {Ya : World → α} {N M K : Nat} {H₀ : Params → Heap} {gs₀ : Array GenState} {d₀ : Drawn} {k₀ : Nat} {S : World → OsState → SharedT}
    (opn : ∀ w : World, (fencedOpening treeTable p w N).map (fun s => (s.heap, s.gens, s.drawn, s.toks)) = some (H₀ w.params, gs₀, d₀, k₀)) (isn : ∀ w : World, ((H₀ w.params).isNs mainGlobals && gs₀.size == 0) = true) (abs : ∀ w os, (S w os).abs = ⟨H₀ w.params, gs₀, d₀, k₀, os⟩) (le : M + K = N)
    (hY : ∀ s, Yf s.abs = YT s)
    (e1 : ∀ w os, (topRunT treeTable p w (H₀ w.params).objs.size ((H₀ w.params).nsMap mainGlobals "__annotations__") M (S w os) (topStub p)).map (fun s => (staticsOk (importedModules p.main.body) (H₀ w.params) s.abs.heap && namesBound p s.abs.heap && gensDone s.abs && laidKept (H₀ w.params) s.abs.heap, YT s)) = some (true, Ya w))
    (e2 : ∀ w os s, topRunT treeTable p w (H₀ w.params).objs.size ((H₀ w.params).nsMap mainGlobals "__annotations__") M (S w os) (topStub p) = some s → openSeen q loose (importedModules p.main.body) Xt true s.abs = openGood q loose) : LeftO p q loose Xt Yf Ya N := fun w => by
  obtain ⟨⟨h, gs, d, k, os⟩, e, e'⟩ := Option.map_eq_some_iff.mp (opn w)
  obtain ⟨rfl, rfl, rfl, rfl⟩ : h = H₀ w.params ∧ gs = gs₀ ∧ d = d₀ ∧ k = k₀ := by simpa using e'
  obtain ⟨s', r0, l⟩ := Option.map_eq_some_iff.mp (e1 w os)
  have l2 := e2 w os s' r0
  obtain ⟨l1, l3⟩ := Prod.mk.inj l
  have r1 := topRun_ofT r0
  rw [abs] at r1
  have r := topRun_mono K _ _ _ _ r1
  rw [le] at r
  have t : topFrom treeTable p w N ⟨H₀ w.params, gs, d, k, os⟩ = some s'.abs := by
    unfold topFrom
    dsimp only
    rw [isn, r]
    show (match staticsOk (importedModules p.main.body) (H₀ w.params) s'.abs.heap && namesBound p s'.abs.heap && gensDone s'.abs && laidKept (H₀ w.params) s'.abs.heap with | true => _ | false => _) = _
    rw [l1]
  unfold openEnds
  rw [e]
  show (topFrom treeTable p w N _).map _ = _
  rw [t]
  exact congrArg some (Prod.ext l2 ((hY s').trans l3))
theorem left9 : LeftO P9 Q9 L9 X9 Y9 (fun w => (hd.heap_1 w.params).map fun p => some p.2) 9116 :=
  left_of (M := 4600) (K := 4516) (S := S9) (boot_open (p := P9) (N := 9116) opens9 (by decide +kernel) (fun s => rfl)) isNs9 abs9 (by rfl) Y9T_eq
    (fun w os => (congrFun (congrFun (congrFun PySem.W.Fast.te13983915388749079597 P9) w) os).trans (run1 w os))
    (fun w os s hs => seen_of ((congrFun (congrFun (congrFun (congrFun (congrFun PySem.W.Fast.te2325378937318870300 P9) Q9) RC9) w) os).trans (run2 w os))
      ((congrFun (congrFun (congrFun (congrFun PySem.W.Fast.te8254200991168589942 P9) Q9) w) os).trans ((run3 w os).trans (congrFun (congrFun (congrFun PySem.W.Fast.te14967209212690604554 Q9) w) os).symm)) hs)
theorem leftV : LeftO P9 hd.view_1 L9 (fun s => xlAt hd.view_1 V9 s && recOk (RowW.records (OpenRow.toRowW PySem.Challenge.rw_pb0121_01.row)) s) Y9 (fun w => (hd.heap_1 w.params).map fun p => some p.2) 9116 := by
  rw [view9]; exact left9
/-- what is to be shown of law -/
noncomputable def LawR : Prop := ∀ (w : World) (s₀ s₁ : Shared) (mg mb : Str → Option Value), Ground hd.view_1 L9 PySem.Challenge.rw_pb0121_01.row.toRowW.records (XL hd.view_1 V9) w s₀ mg mb s₁.heap → (hd.heap_1 w.params).In s₁.heap → s₁.gens = #[] →
    ∀ (args : List WData) (vals : List Value) (as : List Addr), PySem.Challenge.rw_pb0121_01.row.toRowW.claim.pre args = true → WData.layableAll args = true → ReadsAllW PySem.Challenge.rw_pb0121_01.row.toRowW.records (classAt s₀.heap) s₁.heap vals args as → WellAll w.params s₁.heap vals args → (∀ a ∈ as, (a == sysModules) = false) →
      wpR (model P9 w) callerA (PySem.call (.ref 590) vals) (fun v s' => GoodWG PySem.Challenge.rw_pb0121_01.row.toRowW.claim (classAt s₀.heap) (ExcName.means s₀.heap) args s₁ (.ok (.ret v)) s') s₁
theorem law_at {w : World} {h : Heap} {mg : Str → Option Value} {a : Addr} (X : (hd.heap_1 w.params).In h) (G : h.Ns mainGlobals mg) (e : mg (Str.ofString "law") = some (.ref a)) : a = 590 := by
  have z := mg_of X G (show nsIn (hd.heap_1 w.params) mainGlobals (Str.ofString "law") = some (some (.ref 590)) by kernel_rfl)
  rw [e] at z
  exact Value.ref.inj (Option.some.inj z)
theorem said9 : PySem.Challenge.rw_pb0121_01.wellSaid = true := by
  unfold OpenLaw.wellSaid OpenRow.wellSaid OpenRow.partSaid looksOpen
  repeat' (with_reducible refine look_both ?_ ?_)
  all_goals decide +kernel
theorem holds9 (H : LawR) : PySem.Challenge.rw_pb0121_01.Holds := by
  w_on
  refine holds_law said9 fun said => ?_
  refine holdsR (r := PySem.Challenge.rw_pb0121_01.row) (q := hd.view_1) (loose := L9) (Xt := fun s => xlAt hd.view_1 V9 s && recOk (RowW.records (OpenRow.toRowW PySem.Challenge.rw_pb0121_01.row)) s) (XP := XL hd.view_1 V9) (N := 9116)
    leftV (fun w s e => Hook.of (kHook hd.heap_1 as9 as9_eq) w s e) (Hook.keeps (kHook hd.heap_1 as9 as9_eq)) (fun s e => xl_of s (Bool.and_eq_true_iff.mp e).1) XL.keeps (by rfl) (by rfl) (by rfl) (fun s e => recFacts_of (Bool.and_eq_true_iff.mp e).2) (by rfl) (by assumption) (by decide +kernel) ⟨rfl, rfl, rfl, rfl, rfl, by decide +kernel⟩ ?hw ?hc
  case hw => w_witness2
  case hc =>
    intro w s₀ s₁ mg mb G Y a o pm cd doc dV kV ho hd hcd hD hmg hg args vals as hpre hlay hrd hwl hlo
    obtain rfl := law_at Y G.T.g hmg
    exact H w s₀ s₁ mg mb G Y hg args vals as hpre hlay hrd hwl hlo
end Mine
end J_Top
open PySem PySem.W PyProof.Rows
set_option Elab.async false
set_option maxRecDepth 100000
set_option maxHeartbeats 0
set_option linter.unusedVariables false
namespace Mine
local macro_rules | `(tactic| omega) => `(tactic| first | lia | omega +splitMinMax)
local macro_rules | `(tactic| k_all) => `(tactic| assumption)
local macro_rules | `(tactic| walk_at $s:str) => `(tactic| k_extra $s)
example {M : Model} {A : Around} {Q : Unit → Shared → Prop} {E : Value → Shared → Prop} {s : Shared} : wpAny M A (pure ()) Q E s ∨ True := by w_top off; first | (left; walk1; done) | (right; trivial)
section J_Base1
noncomputable abbrev Led := List (Addr × Obj)
noncomputable abbrev LO : List Str := looseW hd.view_1 [Str.ofString "GitError", Str.ofString "OBJECT_MODES", Str.ofString "Tag", Str.ofString "MemoryFinder"]
/-- all objects but those of `S` stand as they stood -/
noncomputable def KeepsBut (S : List Addr) (h h' : Heap) : Prop := ∀ b o, h.get? b = some o → b ∉ S → h'.get? b = some o
/-- what is fixed of a run -/
structure Cx where
  w : World
  mean : ExcName → Option Value
  mg : Str → Option Value
  mb : Str → Option Value
/-- where a call stands -/
structure At (c : Cx) (dp un : Nat) (gd : Option (List Code)) (cn : Str) (cs : Scope) (a : Addr) (ccd : Value) (cl : List (Str × Addr)) (outer : List Env) (A₀ : Around) (base h₀ : Heap) (L : Addr) (m : Str → Option Value) (h : Heap) (news : Led) : Prop where
  B : Below A₀ base outer h₀
  F : Fr h₀ L h m
  X : (hd.heap_1 c.w.params).In h₀
  N : News h₀ L h news
  T : Top hd.view_1 LO c.mean c.mg c.mb h₀
  hk : cs.kind = .function
/-- what a call of the def at `f` with `vs` makes of the ledger; `S`: what it may turn -/
noncomputable def Spec (c : Cx) (f : Addr) (d u : Nat) (vs : List Value) (news : Led) (S : List Addr) (R : Value → Led → Prop) : Prop :=
  ∀ (dp un : Nat) (gd : Option (List Code)) (cn : Str) (cs : Scope) (a : Addr) (ccd : Value) (cl : List (Str × Addr)) (outer : List Env) (A₀ : Around) (base h₀ : Heap) (L : Addr) (m : Str → Option Value) (s : Shared) (Q E : Value → Shared → Prop),
    At c dp un gd cn cs a ccd cl outer A₀ base h₀ L m s.heap news → dp + d < recursionLimit → un + u < cLine →
    (∀ r news' h' tk', R r news' → (∀ p ∈ news, p.1 ∉ S → p ∈ news') → Fr h₀ L h' m → News h₀ L h' news' → KeepsBut S s.heap h' → Q r { s with heap := h', toks := tk' }) →
    wpAny (model PySem.Challenge.rw_pb0121_01.row.prog c.w) (ktrTop dp un gd cn cs L a ccd cl outer) (call (.ref f) vs) Q E s
noncomputable def flowVal : Flow → Value
  | .ret v => v
  | _ => .none
/-- the end of a body that is walked -/
noncomputable def Fin9 (g : Heap) (L' : Addr) (news : Led) (S : List Addr) (R : Value → Led → Prop) (s : Shared) (fl : Flow) (s' : Shared) : Prop :=
  ∃ m' news', Fr g L' s'.heap m' ∧ News g L' s'.heap news' ∧ (∀ p ∈ news, p.1 ∉ S → p ∈ news') ∧ R (flowVal fl) news' ∧ s'.gens = s.gens ∧ s'.drawn = s.drawn ∧ s'.os = s.os
theorem fin_out {h₀ g : Heap} {L L' : Addr} {m : Str → Option Value} {news : Led} {S : List Addr} {R : Value → Led → Prop} {s s' : Shared} {fl : Flow} {Q : Value → Shared → Prop}
    (hS : ∀ p ∈ news, p.1 ∈ S ∨ True) (N : News h₀ L s.heap news) (G : GSub s.heap g (news.map (·.1)))
    (hret : ∀ r news' h' tk', R r news' → (∀ p ∈ news, p.1 ∉ S → p ∈ news') → Fr h₀ L h' m → News h₀ L h' news' → KeepsBut S s.heap h' → Q r { s with heap := h', toks := tk' })
    (H : Fin9 g L' news S R s fl s') : LeaveK h₀ L m g (fun r s' => match r with | .ok (.ret v) => Q v s' | _ => False) (flowVal fl) s' := by
  obtain ⟨m', news', F', N', hk, hR, e1, e2, e3⟩ := H
  refine ⟨L', m', news', F', N', fun F9 N9 => ?_⟩
  have K : KeepsBut S s.heap s'.heap := fun b o e hb => by
    by_cases hm : b ∈ news.map (·.1)
    · obtain ⟨p, hp, rfl⟩ := List.mem_map.mp hm
      have h1 := (N p hp).1
      rw [e] at h1
      cases h1
      exact (N' p (hk p hp hb)).1
    · exact F'.keep b o (G b o e hm)
  have := hret _ news' s'.heap s'.toks hR hk F9 N9 K
  have es : s' = { s with heap := s'.heap, toks := s'.toks } := by
    cases s'; cases s; simp_all
  rw [es]
  exact this
theorem enter {c : Cx} {f : Addr} {d u : Nat} {vs : List Value} {news : Led} {S : List Addr} {R : Value → Led → Prop} {name qual : Str} {params : Arguments} {body : List Stmt} {scope : Scope} {dV kV doc pm cdv ct oc : Value} {an od : Option Addr} {osl : Array (Option Value)} {binds : List (Str × Value)}
    (ho : (hd.heap_1 c.w.params).lookup f = some ⟨oc, od, .func (fnOf name qual params body scope dV kV doc pm an cdv ct), osl⟩) (hcd : codeIn (hd.heap_1 c.w.params) cdv qual = true)
    (hbind : ∀ s : Shared, (hd.heap_1 c.w.params).In s.heap → BindsTo s (fnOf name qual params body scope dV kV doc pm an cdv ct) ⟨vs, []⟩ binds) (hloc : ∀ y ∈ binds, scope.names.lookup y.1 = some .local)
    (hco : scope.isCoroutine = false) (hgen : scope.isGenerator = false) (hk : scope.kind = .function) (hcell : ∀ x ∈ scope.names, x.2 ≠ .cell)
    (h : ∀ (dp un : Nat) (gd : Option (List Code)) (outer : List Env) (A₀ : Around) (base g : Heap) (L' : Addr) (h₁ : Heap) (tk : Nat) (s : Shared),
      At c dp un gd qual scope f cdv [] outer A₀ base g L' (fun y => binds.reverse.lookup y) h₁ news → dp + d < recursionLimit + 1 → un + u < cLine + 3 →
      wpAny (model PySem.Challenge.rw_pb0121_01.row.prog c.w) (ktrTop dp un gd qual scope L' f cdv [] outer) (execs body (envX qual scope L' f cdv [])) (Fin9 g L' news S R s) (fun _ _ => False) { s with heap := h₁, toks := tk }) :
    Spec c f d u vs news S R := by
  intro dp un gd cn cs a ccd cl outer A₀ base h₀ L m s Q E C hd9 hu9 hret
  obtain ⟨B, F, X, N, T, hk9⟩ := C
  refine wpAny_call ?_
  refine code_defG B F X N T rfl rfl hk9 ho hcd ?_ (hbind s (X.keeps F.keep)) hloc ?_ hco hgen hk hcell
  · show dp < recursionLimit
    omega
  · intro g L' h₁ FG F' N' B' X' T' kG
    have z := h (dp + 1) (un + 3) gd (envX cn cs L a ccd cl :: outer) _ base g L' h₁ (s.toks + binds.length) s
      ⟨B', F', X', N', T', hk⟩ (by omega) (by omega)
    refine wpAny_mono z (fun fl s' hf => ?_) (fun e s' he => ?_)
    · have q := fin_out (h₀ := h₀) (L := L) (m := m) (fun _ _ => .inr trivial) N kG hret hf
      obtain ⟨L9, m9, n9, F9, N9, k9⟩ := q
      refine ⟨L9, m9, n9, F9, N9, fun a b => ?_⟩
      have := k9 a b
      cases fl <;> exact this
    · exact he.elim
/-- as «enter», where names of the def are kept in cells -/
theorem enterC {c : Cx} {f : Addr} {d u : Nat} {vs : List Value} {news : Led} {S : List Addr} {R : Value → Led → Prop} {name qual : Str} {params : Arguments} {body : List Stmt} {scope : Scope} {dV kV doc pm cdv ct oc : Value} {an od : Option Addr} {osl : Array (Option Value)} {binds : List (Str × Value)}
    (ho : (hd.heap_1 c.w.params).lookup f = some ⟨oc, od, .func (fnOf name qual params body scope dV kV doc pm an cdv ct), osl⟩) (hcd : codeIn (hd.heap_1 c.w.params) cdv qual = true)
    (hbind : ∀ s : Shared, (hd.heap_1 c.w.params).In s.heap → BindsTo s (fnOf name qual params body scope dV kV doc pm an cdv ct) ⟨vs, []⟩ binds) (hkind : (binds.all fun y => scope.names.lookup y.1 == some .local || scope.names.lookup y.1 == some .cell) = true)
    (hnd : ((cellsFrom 0 scope.names []).map (·.1)).Nodup)
    (hco : scope.isCoroutine = false) (hgen : scope.isGenerator = false) (hk : scope.kind = .function)
    (h : ∀ (dp un : Nat) (gd : Option (List Code)) (outer : List Env) (A₀ : Around) (base g : Heap) (L' : Addr) (h₁ : Heap) (tk : Nat) (s : Shared) (cells : Led),
      At c dp un gd qual scope f cdv (cellsFrom (L' + 1) scope.names []) outer A₀ base g L' (bindL (envX qual scope L' f cdv (cellsFrom (L' + 1) scope.names [])).kindOf binds fun _ => none) h₁ (cells ++ news) → dp + d < recursionLimit + 1 → un + u < cLine + 3 →
      CellsAre (bindC (envX qual scope L' f cdv (cellsFrom (L' + 1) scope.names [])).kindOf binds fun _ => none) (cellsFrom (L' + 1) scope.names []) cells → (∀ p ∈ news, p.1 < L') →
      wpAny (model PySem.Challenge.rw_pb0121_01.row.prog c.w) (ktrTop dp un gd qual scope L' f cdv (cellsFrom (L' + 1) scope.names []) outer) (execs body (envX qual scope L' f cdv (cellsFrom (L' + 1) scope.names []))) (Fin9 g L' news S R s) (fun _ _ => False) { s with heap := h₁, toks := tk }) :
    Spec c f d u vs news S R := by
  intro dp un gd cn cs a ccd cl outer A₀ base h₀ L m s Q E C hd9 hu9 hret
  obtain ⟨B, F, X, N, T, hk9⟩ := C
  refine wpAny_call ?_
  have XS := X.keeps F.keep
  obtain ⟨FG, BG, st, lv⟩ := groundX (A := (ktrTop dp un gd cn cs L a ccd cl outer)) (env := envX cn cs L a ccd cl) (outer := outer) (R := fun r s' => match r with | .ok (.ret v) => Q v s' | .ok _ => False | .error e => E e s') B F N rfl rfl hk9
  refine codeAny_call_function (o := ⟨oc, od, .func (fnOf name qual params body scope dV kV doc pm an cdv ct), osl⟩) (by show dp < recursionLimit; omega) (XS _ _ ho) rfl hco hgen rfl (codeRec_of XS hcd) (hbind s XS _ _ _ _ ?_)
  refine wpAny_newFunctionEnv_cells hk (kindsX hkind _) fun env' he s' x => ?_
  subst he
  refine ⟨(T.nolimit.keeps F.keep).keeps x.toInCall.keep, codeAny_func ?_⟩
  have hkeep := x.toInCall.keep
  obtain ⟨h₁, tk, rfl, -⟩ := x.done
  obtain ⟨cells, NC, Y⟩ := Cl.news (h₀ := s.heap) (Nat.le_refl _) fun n c hm => ⟨x.cell n c (lookup_of_mem_nodup (cellsFrom_names scope.names 0 (s.heap.objs.size + 1) [] [] rfl ▸ hnd) hm), x.above n c hm⟩
  have NN : News (hideAll s.heap (news.map (·.1))) s.heap.objs.size h₁ (cells ++ news) := by
    intro p hp
    rcases List.mem_append.mp hp with hp | hp
    · refine ⟨(NC p hp).1, (NC p hp).2.1, ?_⟩
      cases q : (hideAll s.heap (news.map (·.1))).get? p.1 with
      | none => rfl
      | some o => have := of_hideAll _ q; rw [(NC p hp).2.2] at this; cases this
    · exact ⟨hkeep _ _ (N p hp).1, Nat.ne_of_lt (Heap.lt_size (N p hp).1), hideAll_none _ (List.mem_map_of_mem hp)⟩
  have Xg : (hd.heap_1 c.w.params).In (hideAll s.heap (news.map (·.1))) := Frag.In.keeps X st
  have Tg : Top hd.view_1 LO c.mean c.mg c.mb (hideAll s.heap (news.map (·.1))) := Top.keeps T st
  have z := h (dp + 1) (un + 3) gd (envX cn cs L a ccd cl :: outer) _ base (hideAll s.heap (news.map (·.1))) s.heap.objs.size h₁ tk s cells
    ⟨BG, ⟨x.toInCall.ns, fun b o e => hkeep b o (of_hideAll _ e), Nat.le_of_eq (hideAll_size _ _)⟩, Xg, NN, Tg, hk⟩ (by omega) (by omega) Y (fun p hp => Heap.lt_size (N p hp).1)
  refine wpAny_mono z (fun fl s' hf => ?_) (fun e s' he => he.elim)
  have q := fin_out (h₀ := h₀) (L := L) (m := m) (fun _ _ => .inr trivial) N (fun b o e n => hideAll_get _ e n) hret hf
  refine lv (flowVal fl) s' ?_
  obtain ⟨L9, m9, n9, F9, N9, k9⟩ := q
  exact ⟨L9, m9, n9, F9, N9, fun a b => k9 a b⟩
end J_Base1
example {M : Model} {A : Around} {Q : Unit → Shared → Prop} {E : Value → Shared → Prop} {s : Shared} : wpAny M A (pure ()) Q E s ∨ True := by w_top off; first | (left; walk1; done) | (right; trivial)
section J_Lib1
/-- a mark at which the walk stands still -/
noncomputable def Stop9 (P : Prop) : Prop := P
theorem stop9 {P : Prop} (h : Stop9 P) : P := h
theorem stopEnd {α : Type} {M : Model} {A : Around} {t : Sem α} {Q : α → Shared → Prop} {E : Value → Shared → Prop} {s : Shared} (h : wpAny M A t (fun a s' => Stop9 (Q a s')) E s) : wpAny M A t Q E s := h
theorem unstop {P : Prop} (h : P) : Stop9 P := h
theorem letA {α : Sort _} {P : α → Prop} (a : α) (h : let x := a; P x) : P a := h
theorem stopP0 {M : Model} {A : Around} {Q : _ → Shared → Prop} {E : Value → Shared → Prop} {s : Shared} {x1 : _} {x2 : _} {x3 : _} {x4 : _} {x5 : _} (h : Stop9 (wpAny M A (eval (Expr.ListComp x1 x2 x3 x4) x5) Q E s)) : wpAny M A (eval (Expr.ListComp x1 x2 x3 x4) x5) Q E s := h
theorem stopP1 {M : Model} {A : Around} {Q : _ → Shared → Prop} {E : Value → Shared → Prop} {s : Shared} {x1 : _} {x2 : _} {x3 : _} {x4 : _} {x5 : _} {x6 : _} (h : Stop9 (wpAny M A (exec (Stmt.For x1 x2 x3 x4 x5) x6) Q E s)) : wpAny M A (exec (Stmt.For x1 x2 x3 x4 x5) x6) Q E s := h
theorem stopP2 {M : Model} {A : Around} {Q : _ → Shared → Prop} {E : Value → Shared → Prop} {s : Shared} {x1 : _} {x2 : _} {x3 : _} {x4 : _} {x5 : _} {x6 : _} {x7 : _} (h : Stop9 (wpAny M A (exec (Stmt.Assign x1 (Expr.ListComp x2 x3 x4 x5) x6) x7) Q E s)) : wpAny M A (exec (Stmt.Assign x1 (Expr.ListComp x2 x3 x4 x5) x6) x7) Q E s := h
theorem stopP3 {M : Model} {A : Around} {Q : _ → Shared → Prop} {E : Value → Shared → Prop} {s : Shared} {x1 : _} (h : Stop9 (wpAny M A (pyIter (Value.ref x1)) Q E s)) : wpAny M A (pyIter (Value.ref x1)) Q E s := h
theorem stopP4 {M : Model} {A : Around} {Q : _ → Shared → Prop} {E : Value → Shared → Prop} {s : Shared} {x1 : _} {x2 : _} {x3 : _} (h : Stop9 (wpAny M A (getMethod (Value.ref x1) x2 x3) Q E s)) : wpAny M A (getMethod (Value.ref x1) x2 x3) Q E s := h
theorem stopP5 {M : Model} {A : Around} {Q : _ → Shared → Prop} {E : Value → Shared → Prop} {s : Shared} {x1 : _} (h : Stop9 (wpAny M A (call (Value.type "bytes") [Value.ref x1]) Q E s)) : wpAny M A (call (Value.type "bytes") [Value.ref x1]) Q E s := h
theorem stopP6 {M : Model} {A : Around} {Q : _ → Shared → Prop} {E : Value → Shared → Prop} {s : Shared} {x1 : _} (h : Stop9 (wpAny M A (call (Value.builtin "len") [Value.ref x1]) Q E s)) : wpAny M A (call (Value.builtin "len") [Value.ref x1]) Q E s := h
theorem stopP7 {M : Model} {A : Around} {Q : _ → Shared → Prop} {E : Value → Shared → Prop} {s : Shared} {x1 : _} {x2 : _} {x3 : _} {x4 : _} {x5 : _} (h : Stop9 (wpAny M A (subscriptTail x1 x2 (Value.ref x3) (Value.bytes x4 x5)) Q E s)) : wpAny M A (subscriptTail x1 x2 (Value.ref x3) (Value.bytes x4 x5)) Q E s := h
theorem stopP8 {M : Model} {A : Around} {Q : _ → Shared → Prop} {E : Value → Shared → Prop} {s : Shared} {x1 : _} {x2 : _} {x3 : _} {x4 : _} {x5 : _} (h : Stop9 (wpAny M A (subscriptTail x1 x2 (Value.ref x3) (Value.int x4 x5)) Q E s)) : wpAny M A (subscriptTail x1 x2 (Value.ref x3) (Value.int x4 x5)) Q E s := h
theorem stopP9 {M : Model} {A : Around} {Q : _ → Shared → Prop} {E : Value → Shared → Prop} {s : Shared} {x1 : _} {x2 : _} {x3 : _} {x4 : _} {x5 : _} (h : Stop9 (wpAny M A (exec (Stmt.While x1 x2 x3 x4) x5) Q E s)) : wpAny M A (exec (Stmt.While x1 x2 x3 x4) x5) Q E s := h
theorem stopP10 {M : Model} {A : Around} {Q : _ → Shared → Prop} {E : Value → Shared → Prop} {s : Shared} {x1 : _} {x2 : _} {x3 : _} {x4 : _} {x5 : _} {x6 : _} (h : Stop9 (wpAny M A (exec (Stmt.Try x1 x2 x3 x4 x5) x6) Q E s)) : wpAny M A (exec (Stmt.Try x1 x2 x3 x4 x5) x6) Q E s := h
theorem stopP11 {M : Model} {A : Around} {Q : _ → Shared → Prop} {E : Value → Shared → Prop} {s : Shared} {x1 : _} (h : Stop9 (wpAny M A (call (Value.builtin "sorted") [Value.ref x1]) Q E s)) : wpAny M A (call (Value.builtin "sorted") [Value.ref x1]) Q E s := h
theorem stopP12 {M : Model} {A : Around} {Q : _ → Shared → Prop} {E : Value → Shared → Prop} {s : Shared} {x1 : _} {x2 : _} (h : Stop9 (wpAny M A (call (Value.builtin "str.lower") [Value.str x1 x2]) Q E s)) : wpAny M A (call (Value.builtin "str.lower") [Value.str x1 x2]) Q E s := h
theorem stopP13 {M : Model} {A : Around} {Q : _ → Shared → Prop} {E : Value → Shared → Prop} {s : Shared} {x1 : _} {x2 : _} {x3 : _} {x4 : _} (h : Stop9 (wpAny M A (compareOp CmpOp.NotIn (Value.str x1 x2) (Value.str x3 x4)) Q E s)) : wpAny M A (compareOp CmpOp.NotIn (Value.str x1 x2) (Value.str x3 x4)) Q E s := h
theorem stopP14 {M : Model} {A : Around} {Q : _ → Shared → Prop} {E : Value → Shared → Prop} {s : Shared} {x1 : _} {x2 : _} (h : Stop9 (wpAny M A (compareOp CmpOp.Eq (Value.ref x1) (Value.ref x2)) Q E s)) : wpAny M A (compareOp CmpOp.Eq (Value.ref x1) (Value.ref x2)) Q E s := h
theorem stopP15 {M : Model} {A : Around} {Q : _ → Shared → Prop} {E : Value → Shared → Prop} {s : Shared} {x1 : _} {x2 : _} {x3 : _} {x4 : _} {x5 : _} {x6 : _} {x7 : _} (h : Stop9 (wpAny M A (exec (Stmt.If (Expr.BoolOp x1 x2 x3) x4 x5 x6) x7) Q E s)) : wpAny M A (exec (Stmt.If (Expr.BoolOp x1 x2 x3) x4 x5 x6) x7) Q E s := h
theorem stopP16 {M : Model} {A : Around} {Q : _ → Shared → Prop} {E : Value → Shared → Prop} {s : Shared} {x1 : _} {x2 : _} {x3 : _} {x4 : _} (h : Stop9 (wpAny M A (subscriptTail x1 x2 (Value.ref x3) x4) Q E s)) : wpAny M A (subscriptTail x1 x2 (Value.ref x3) x4) Q E s := h
theorem stopP17 {M : Model} {A : Around} {Q : _ → Shared → Prop} {E : Value → Shared → Prop} {s : Shared} {x1 : _} {x2 : _} {x3 : _} {x4 : _} (h : Stop9 (wpAny M A (compareOp CmpOp.NotIn (Value.int x1 x2) (Value.bytes x3 x4)) Q E s)) : wpAny M A (compareOp CmpOp.NotIn (Value.int x1 x2) (Value.bytes x3 x4)) Q E s := h
theorem stopP18 {M : Model} {A : Around} {Q : _ → Shared → Prop} {E : Value → Shared → Prop} {s : Shared} {x1 : _} {x2 : _} {x3 : _} {x4 : _} {x5 : _} {x6 : _} (h : Stop9 (wpAny M A (exec (Stmt.If (Expr.BoolOp BoolOp.And x1 x2) x3 x4 x5) x6) Q E s)) : wpAny M A (exec (Stmt.If (Expr.BoolOp BoolOp.And x1 x2) x3 x4 x5) x6) Q E s := h
theorem stopP19 {M : Model} {A : Around} {Q : _ → Shared → Prop} {E : Value → Shared → Prop} {s : Shared} {x1 : _} {x2 : _} (h : Stop9 (wpAny M A (call (Value.builtin "len") [Value.str x1 x2]) Q E s)) : wpAny M A (call (Value.builtin "len") [Value.str x1 x2]) Q E s := h
theorem stopP20 {M : Model} {A : Around} {Q : _ → Shared → Prop} {E : Value → Shared → Prop} {s : Shared} {x1 : _} {x2 : _} {x3 : _} {x4 : _} {x5 : _} (h : Stop9 (wpAny M A (subscriptTail x1 x2 (Value.str x3 x4) (Value.ref x5)) Q E s)) : wpAny M A (subscriptTail x1 x2 (Value.str x3 x4) (Value.ref x5)) Q E s := h
theorem stopP21 {M : Model} {A : Around} {Q : _ → Shared → Prop} {E : Value → Shared → Prop} {s : Shared} {x1 : _} (h : Stop9 (wpAny M A (call (Value.builtin "str.join") x1) Q E s)) : wpAny M A (call (Value.builtin "str.join") x1) Q E s := h
theorem stopP22 {M : Model} {A : Around} {Q : _ → Shared → Prop} {E : Value → Shared → Prop} {s : Shared} {x1 : _} {x2 : _} {x3 : _} {x4 : _} (h : Stop9 (wpAny M A (binaryOp Operator.Add (Value.str x1 x2) (Value.str x3 x4)) Q E s)) : wpAny M A (binaryOp Operator.Add (Value.str x1 x2) (Value.str x3 x4)) Q E s := h
theorem stopP23 {M : Model} {A : Around} {Q : _ → Shared → Prop} {E : Value → Shared → Prop} {s : Shared} {x1 : _} {x2 : _} {x3 : _} {x4 : _} {x5 : _} (h : Stop9 (wpAny M A (exec (Stmt.If x1 x2 x3 x4) x5) Q E s)) : wpAny M A (exec (Stmt.If x1 x2 x3 x4) x5) Q E s := h
noncomputable def stops9 : List Nat := [52, 64, 76, 83, 90, 95, 117, 120, 132, 139, 160, 163, 188, 205, 223, 254, 265, 272, 300, 310, 336, 343, 346, 357, 364, 385, 392, 406, 413, 434, 441, 448, 462, 483, 490, 498, 519, 524, 530, 533, 540, 547, 552, 559, 566, 573, 578, 585]
theorem stop_ref {M : Model} {A : Around} {n : Nat} {vs : List Value} {Q : Value → Shared → Prop} {E : Value → Shared → Prop} {s : Shared} (_ : stops9.contains n = true) (h : Stop9 (wpAny M A (call (.ref n) vs) Q E s)) : wpAny M A (call (.ref n) vs) Q E s := h
theorem room9 {a k K b : Nat} (h : a + K < b) (hk : Nat.ble k K = true) : a + k < b := Nat.lt_of_le_of_lt (Nat.add_le_add_left (Nat.le_of_ble_eq_true hk) a) h
theorem room1 {a k K b : Nat} (h : a + K < b + 1) (hk : Nat.ble (k + 1) K = true) : a + k < b := Nat.lt_of_succ_lt_succ (Nat.lt_of_le_of_lt (Nat.add_le_add_left (Nat.le_of_ble_eq_true hk) a) h)
/-- the sign of a figure -/
noncomputable def fig (k : Nat) : Nat := if k < 10 then 48 + k else 87 + k
noncomputable def hexL (l : List UInt8) : List Nat := l.flatMap fun c => [fig (c.toNat / 16), fig (c.toNat % 16)]
noncomputable def hexS (b : Array UInt8) : Str := ⟨(hexL b.toList).toArray⟩
theorem fig_at : ∀ k, k < 16 → (Str.ofString "0123456789abcdef").cps[k]? = some (fig k) := by
  decide +kernel
section
variable {prog : Program} {w : World} {A : Around} {E : Value → Shared → Prop} {s : Shared}
theorem fig_item {value slice : Expr} {t u : Tok} {i : Int} {Q : Value → Shared → Prop} (h0 : 0 ≤ i) (h1 : i < 16) (h : Q (.str ⟨#[fig i.toNat]⟩ s.toks) { s with toks := s.toks + 1 })
    (hs : subscripted slice false (.str (Str.ofString "0123456789abcdef") t) (.int i u) = operate [.str (Str.ofString "0123456789abcdef") t, .int i u] (getItem (.str (Str.ofString "0123456789abcdef") t) (.int i u)) := by with_unfolding_all rfl) :
    wpAny (model prog w) A (subscriptTail value slice (.str (Str.ofString "0123456789abcdef") t) (.int i u)) Q E s := by
  refine tail_any (typeIs_str s _ t) F.slot_str_getitem.lookup (P.getItem_str (c := fig i.toNat) ?_ ?_ h) hs
  · have a : ¬ (i < -(2 ^ 63 : Int)) := by omega
    have b : ¬ (i ≥ (2 ^ 63 : Int)) := by omega
    simp [a, b]; omega
  · have e : (Str.ofString "0123456789abcdef").length = 16 := by decide +kernel
    rw [e]
    unfold seqIndex?
    have a : ¬ (i < 0) := by omega
    have b : i < (16 : Nat) := by omega
    simp only [a, if_false, h0, b, decide_true, Bool.and_self, if_true, Option.bind]
    exact fig_at _ (by omega)
end
/-- texts one behind the other -/
noncomputable def catS (l : List Str) : Str := ⟨(l.flatMap fun x => x.cps.toList).toArray⟩
theorem join_empty : ∀ l : List Str, Txt.join (Str.ofString "") l = catS l := by
  have e0 : (Str.ofString "").cps = #[] := by decide +kernel
  intro l
  show Builtin.Str.glued _ l = _
  rw [StrLaws.glued_eq_join]
  induction l with
  | nil => rfl
  | cons x r ih =>
    cases r with
    | nil => apply Str.ext'; simp [Str.join, catS]
    | cons y r =>
      show x ++ Str.ofString "" ++ Str.join _ (y :: r) = _
      rw [ih]
      apply Str.ext'
      simp only [Str.cps_append, e0, catS, List.flatMap_cons]
      simp
theorem joinOk_small {sep : Str} {l : List Str} (h : (l.map (·.length)).sum + l.length * sep.length ≤ 1000000) : JoinOk sep l = true := by
  unfold JoinOk
  rw [StrLaws.joinTotal]
  unfold Builtin.Str.tooLong
  rw [sizeLine_eq]
  simp
  omega
/-- what a list of texts' pairing tells -/
theorem strs_of_paired {α : Type} {G : Value → α → Prop} {f : α → Str} {vs ys : List Value} (r : Paired (fun v y => ∃ a t, G v a ∧ y = Value.str (f a) t) vs ys) :
    ∃ (as : List α) (l : List (Str × Tok)), ys = strValues l ∧ l.map (·.1) = as.map f ∧ Paired G vs as := by
  induction r with
  | nil => exact ⟨[], [], rfl, rfl, .nil⟩
  | cons h r ih =>
    obtain ⟨a, t, h, e⟩ := h
    obtain ⟨as, l, e1, e2, hp⟩ := ih
    subst e e1
    exact ⟨a :: as, (f a, t) :: l, rfl, by simp [e2], .cons h hp⟩
theorem str1 {x y : Str} {t t' : Tok} (h : x = y) (ht : t = t') : Value.str x t = Value.str y t' := by rw [h, ht]
/-- the bytes that a walk over them met -/
theorem paired_walk {α β : Type} {F : Value → α → Prop} {G : Value → β → Prop} {H : α → β → Prop} (step : ∀ v a b, F v a → G v b → H a b) {vs : List Value} {as : List α} (r : Paired F vs as) : ∀ {l : List β}, vs.length = l.length → (∀ (j : Nat) (v : Value), vs[j]? = some v → ∃ c, l[j]? = some c ∧ G v c) → Paired H as l := by
  induction r with
  | nil =>
    intro l hl hP
    cases l with
    | nil => exact .nil
    | cons c l => cases hl
  | @cons v a vs as h r ih =>
    intro l hl hP
    cases l with
    | nil => cases hl
    | cons c l =>
      obtain ⟨c', e1, e2⟩ := hP 0 v rfl
      cases e1
      exact .cons (step _ _ _ h e2) (ih (Nat.succ.inj hl) fun j v h => hP (j + 1) v h)
theorem paired_eq {α : Type} {as l : List α} (r : Paired (fun a b => a = b) as l) : as = l := by
  induction r with
  | nil => rfl
  | cons h r ih => rw [h, ih]
theorem paired_bytes (l : List UInt8) (vs : List Value) (as : List UInt8) (hl : vs.length = l.length) (hP : ∀ (j : Nat) (v : Value), vs[j]? = some v → ∃ (c : UInt8) (u : Tok), l[j]? = some c ∧ v = Value.int (c.toNat : Int) u)
    (r : Paired (fun v (c : UInt8) => ∃ u, v = Value.int (c.toNat : Int) u) vs as) : as = l :=
  paired_eq (paired_walk (G := fun v (c : UInt8) => ∃ u, v = Value.int (c.toNat : Int) u) (fun v a b ⟨u, e⟩ ⟨u', e'⟩ => by
    rw [e] at e'
    exact UInt8.toNat_inj.mp (Int.ofNat.inj (Value.int.inj e').1)) r hl fun j v h => by
      obtain ⟨c, u, e, e'⟩ := hP j v h
      exact ⟨c, e, u, e'⟩)
theorem told_u8 {c : UInt8} : ((c.toNat : Int).fdiv 16) = ((c.toNat / 16 : Nat) : Int) ∧ ((c.toNat : Int).fmod 16) = ((c.toNat % 16 : Nat) : Int) ∧ c.toNat < 256 := by
  have := c.toNat_lt
  refine ⟨?_, ?_, by omega⟩
  · rw [Int.fdiv_eq_ediv_of_nonneg _ (by omega)]; omega
  · rw [Int.fmod_eq_emod_of_nonneg _ (by omega)]; omega
theorem keep_iter {h h' : Heap} {o : Obj} (hk : ∀ b o', ¬ b ∈ [h.objs.size] → (h.push o).get? b = some o' → h'.get? b = some o') : ∀ b o', h.get? b = some o' → h'.get? b = some o' :=
  fun b o' e => hk b o' (by simp; exact Nat.ne_of_lt (Heap.lt_size e)) (Heap.get?_push_of_some _ e)
theorem list_of {h : Heap} {D : Addr} {ys : Array Value} {l : List Value} (hl : h.IsList D ys) (e : ys.toList = l) : h.IsList D l.toArray := by
  subst e; simpa using hl
theorem sub1 {x : Addr × Obj} {a b : Led} : ∀ p ∈ x :: a, p ∈ x :: List.append a b := fun p hp => by
  rcases List.mem_cons.mp hp with rfl | hp
  · exact .head _
  · exact .tail _ (List.mem_append_left _ hp)
theorem sub2 {x : Addr × Obj} {a b : Led} : ∀ p ∈ b, p ∈ x :: List.append a b := fun _ hp => .tail _ (List.mem_append_right _ hp)
end J_Lib1
example {M : Model} {A : Around} {Q : Unit → Shared → Prop} {E : Value → Shared → Prop} {s : Shared} : wpAny M A (pure ()) Q E s ∨ True := by w_top off; first | (left; walk1; done) | (right; trivial)
section J_Lib2
section
variable {prog : Program} {w : World} {A : Around} {E : Value → Shared → Prop} {env : Env}
/-- what is shown of the tests and the element of a comprehension, where the ground is a ledger -/
noncomputable def EltOk (prog : Program) (w : World) (A : Around) (env : Env) (scope : Scope) (cl : List (Str × Addr)) (x : Str) (h₀ : Heap) (m : Str → Option Value) (news : Led) (s₁ : Shared) (P : Nat → Value → Prop) {α : Type} (t : Env → Sem α) (R : Value → α → Prop) : Prop :=
  ∀ C i v s₃ m₃, P i v → s₃.heap.Ns C m₃ → m₃ x = some v → s₁.heap.objs.size < C → Fr h₀ env.locals s₃.heap m → News h₀ env.locals s₃.heap news → (∀ b o, s₁.heap.get? b = some o → s₃.heap.get? b = some o) →
    wpAny (model prog w) A (t (compEnvC scope cl C env)) (fun y s₄ => R v y ∧ Keeps s₃ s₄) (fun _ _ => False) s₃
noncomputable def testsOf (ifs : List Expr) (cenv : Env) : Sem Bool :=
  forIn ifs true fun c r => if r = true then do let ok ← isTrue c cenv (eval c cenv); pure (ForInStep.yield ok) else pure (ForInStep.yield r)
theorem quiet_of {scope : Scope} {cl : List (Str × Addr)} {x : Str} {ifs : List Expr} {elt : Expr} {h₀ : Heap} {m : Str → Option Value} {news : Led} {s₁ : Shared} {o : Obj} {P : Nat → Value → Prop} {p : Value → Bool} {G : Value → Value → Prop}
    (F : Fr h₀ env.locals s₁.heap m) (N : News h₀ env.locals s₁.heap news)
    (ht : EltOk prog w A env scope cl x h₀ m news s₁ P (testsOf ifs) (fun v ok => ok = p v))
    (he : EltOk prog w A env scope cl x h₀ m news s₁ (fun i v => P i v ∧ p v = true) (eval elt) G) :
    QuietOnC prog w A env scope cl x ifs elt [s₁.heap.objs.size] P p G { s₁ with heap := s₁.heap.push o } := by
  refine ⟨?_, ?_⟩
  · intro C i v s₃ m₃ E' hC hv hn hm hkp _
    have hk := keep_iter hkp
    have hc : s₁.heap.objs.size < C := by
      have : (s₁.heap.push o).objs.size ≤ C := hC
      rw [Heap.size_push] at this; exact this
    exact wpAny_mono (ht C i v s₃ m₃ hv hn hm hc (F.keeps hk) (N.grown hk) hk) (fun _ _ h => h) (fun _ _ h => h.elim)
  · intro C i v s₃ m₃ E' hC hv hp hn hm hkp _
    have hk := keep_iter hkp
    have hc : s₁.heap.objs.size < C := by
      have : (s₁.heap.push o).objs.size ≤ C := hC
      rw [Heap.size_push] at this; exact this
    exact wpAny_mono (he C i v s₃ m₃ ⟨hv, hp⟩ hn hm hc (F.keeps hk) (N.grown hk) hk) (fun _ _ h => h) (fun _ _ h => h.elim)
/-- a comprehension's ground behind the iterator's making -/
theorem comp_push {s₁ : Shared} {o : Obj} {fp : List Addr} {n : Nat} {P : Nat → Value → Prop} {St : Nat → Heap → Prop} {scope : Scope} {cl : List (Str × Addr)} {x : Str} {ifs : List Expr} {elt : Expr} {h₀ : Heap} {m : Str → Option Value} {news : Led} {Q : Value → Shared → Prop}
    (p : Value → Bool) (G : Value → Value → Prop) (F : Fr h₀ env.locals s₁.heap m) (N : News h₀ env.locals s₁.heap news)
    (W : Walks prog w A s₁.heap.objs.size fp [s₁.heap.objs.size] n P St) (hn : n ≤ 1000000) (h0 : St 0 (s₁.heap.push o)) (hfp : ∀ b ∈ fp, b ≤ s₁.heap.objs.size)
    (ht : EltOk prog w A env scope cl x h₀ m news s₁ P (testsOf ifs) (fun v ok => ok = p v))
    (he : EltOk prog w A env scope cl x h₀ m news s₁ (fun i v => P i v ∧ p v = true) (eval elt) G)
    (fin : ∀ D h' tk ys ep (vs : List Value), Fr h₀ env.locals h' m → News h₀ env.locals h' ((D, listOf ys ep) :: news) → (∀ p ∈ news, p.1 ≠ D) → D ≠ env.locals → vs.length = n → (∀ j v, vs[j]? = some v → P j v) → Paired G (vs.filter p) ys.toList →
      (∀ b o, s₁.heap.get? b = some o → h'.get? b = some o) → Q (.ref D) { s₁ with heap := h', toks := tk }) :
    ∃ I fp wr n P St, (Value.ref s₁.heap.objs.size) = .ref I ∧ Walks prog w A I fp wr n P St ∧ n ≤ sizeLine ∧ St 0 (s₁.heap.push o) ∧ (∀ b ∈ fp, b < (s₁.heap.push o).objs.size) ∧
      QuietOnC prog w A env scope cl x ifs elt wr P p G { s₁ with heap := s₁.heap.push o } ∧
      (∀ D h' tk ys (vs : List Value), (s₁.heap.push o).get? D = none → h'.IsList D ys → h'.PlainList D ys → vs.length = n → (∀ j v, vs[j]? = some v → P j v) → Paired G (vs.filter p) ys.toList →
        (∀ b o', b ∉ wr → (s₁.heap.push o).get? b = some o' → h'.get? b = some o') → Q (.ref D) { s₁ with heap := h', toks := tk }) := by
  refine ⟨_, fp, _, n, P, St, rfl, W, by rw [sizeLine_eq]; omega, h0, fun b hb => by rw [Heap.size_push]; exact Nat.lt_succ_of_le (hfp b hb), quiet_of F N ht he, ?_⟩
  intro D h' tk ys vs hD hl hpl hlen hP hF hkp
  have hk := keep_iter hkp
  obtain ⟨ep, hpl⟩ := hpl
  have hD1 : s₁.heap.get? D = none := by
    cases e : s₁.heap.get? D with
    | none => rfl
    | some o' => rw [Heap.get?_push_of_some _ e] at hD; cases hD
  have hL : D ≠ env.locals := by
    rintro rfl
    refine hushL ?_
    intro hGG
    obtain ⟨_, _, _, ho, _⟩ := F.ns
    k_unfold
    clear hGG
    rw [ho] at hD1; cases hD1
  refine fin D h' tk ys ep vs (F.keeps hk) ?_ ?_ hL hlen hP hF hk
  · intro q hq
    rcases List.mem_cons.mp hq with rfl | hq
    · refine ⟨hpl, hL, ?_⟩
      cases e : h₀.get? D with
      | none => rfl
      | some o' => rw [F.keep _ _ e] at hD1; cases hD1
    · exact (N.grown hk) q hq
  · rintro q hq rfl
    rw [(N q hq).1] at hD1; cases hD1
theorem comp_push_as {s₁ : Shared} {o : Obj} {fp : List Addr} {n : Nat} {P : Nat → Value → Prop} {St : Nat → Heap → Prop} {scope : Scope} {cl : List (Str × Addr)} {x y : Str} {ifs : List Expr} {elt : Expr} {h₀ : Heap} {m : Str → Option Value} {news : Led} {Q : Flow → Shared → Prop}
    (p : Value → Bool) (G : Value → Value → Prop) (F : Fr h₀ env.locals s₁.heap m) (N : News h₀ env.locals s₁.heap news)
    (W : Walks prog w A s₁.heap.objs.size fp [s₁.heap.objs.size] n P St) (hn : n ≤ 1000000) (h0 : St 0 (s₁.heap.push o)) (hfp : ∀ b ∈ fp, b ≤ s₁.heap.objs.size)
    (ht : EltOk prog w A env scope cl x h₀ m news s₁ P (testsOf ifs) (fun v ok => ok = p v))
    (he : EltOk prog w A env scope cl x h₀ m news s₁ (fun i v => P i v ∧ p v = true) (eval elt) G)
    (fin : ∀ D h' tk ys ep (vs : List Value), Fr h₀ env.locals h' (fun z => if z = y then some (.ref D) else m z) → News h₀ env.locals h' ((D, listOf ys ep) :: news) → (∀ p ∈ news, p.1 ≠ D) → D ≠ env.locals → vs.length = n → (∀ j v, vs[j]? = some v → P j v) → Paired G (vs.filter p) ys.toList →
      (∀ b o, b ≠ env.locals → s₁.heap.get? b = some o → h'.get? b = some o) → Q .next { s₁ with heap := h', toks := tk }) :
    ∃ I fp wr n P St m, (Value.ref s₁.heap.objs.size) = .ref I ∧ Walks prog w A I fp wr n P St ∧ n ≤ sizeLine ∧ St 0 (s₁.heap.push o) ∧ (∀ b ∈ fp, b < (s₁.heap.push o).objs.size) ∧
      env.locals ∉ wr ∧ (s₁.heap.push o).Ns env.locals m ∧ QuietOnC prog w A env scope cl x ifs elt wr P p G { s₁ with heap := s₁.heap.push o } ∧
      (∀ D h' tk ys (vs : List Value), (s₁.heap.push o).get? D = none → h'.IsList D ys → h'.PlainList D ys → vs.length = n → (∀ j v, vs[j]? = some v → P j v) → Paired G (vs.filter p) ys.toList →
        h'.Ns env.locals (fun z => if z = y then some (.ref D) else m z) → (∀ b o', b ≠ env.locals → b ∉ wr → (s₁.heap.push o).get? b = some o' → h'.get? b = some o') → Q .next { s₁ with heap := h', toks := tk }) := by
  have hLs : env.locals ∉ [s₁.heap.objs.size] := fun hm => absurd F.ns.lt ((List.mem_singleton.mp hm) ▸ Nat.lt_irrefl _)
  refine ⟨_, fp, _, n, P, St, m, rfl, W, by rw [sizeLine_eq]; omega, h0, fun b hb => by rw [Heap.size_push]; exact Nat.lt_succ_of_le (hfp b hb), hLs, (F.push o).ns, quiet_of F N ht he, ?_⟩
  intro D h' tk ys vs hD hl hpl hlen hP hF hns hkp
  have hk : ∀ b o', b ≠ env.locals → s₁.heap.get? b = some o' → h'.get? b = some o' := fun b o' hb e =>
    hkp b o' hb (by simp; exact Nat.ne_of_lt (Heap.lt_size e)) (Heap.get?_push_of_some _ e)
  obtain ⟨ep, hpl⟩ := hpl
  have hD1 : s₁.heap.get? D = none := by
    cases e : s₁.heap.get? D with
    | none => rfl
    | some o' => rw [Heap.get?_push_of_some _ e] at hD; cases hD
  have hL : D ≠ env.locals := by
    rintro rfl
    refine hushL ?_
    intro hGG
    obtain ⟨_, _, _, ho, _⟩ := F.ns
    k_unfold
    clear hGG
    rw [ho] at hD1; cases hD1
  have hb : ∀ b o', h₀.get? b = some o' → b ≠ env.locals := fun b o' e => Nat.ne_of_lt (Nat.lt_of_lt_of_le (Heap.lt_size e) F.above)
  refine fin D h' tk ys ep vs ⟨hns, fun b o' e => hk b o' (hb b o' e) (F.keep b o' e), F.above⟩ ?_ ?_ hL hlen hP hF hk
  · intro q hq
    rcases List.mem_cons.mp hq with rfl | hq
    · refine ⟨hpl, hL, ?_⟩
      cases e : h₀.get? D with
      | none => rfl
      | some o' => rw [F.keep _ _ e] at hD1; cases hD1
    · exact ⟨hk _ _ (N q hq).2.1 (N q hq).1, (N q hq).2⟩
  · rintro q hq rfl
    rw [(N q hq).1] at hD1; cases hD1
/-- what a loop walks over -/
noncomputable def SrcOk (prog : Program) (w : World) (xv : Value) (n : Nat) (P : Nat → Value → Prop) (src : List Addr) (s₁ : Shared) : Prop :=
  ∀ (A : Around) (Q : Value → Shared → Prop) (E : Value → Shared → Prop), A.handled = none →
    (∀ o fp St, Walks prog w A s₁.heap.objs.size fp [s₁.heap.objs.size] n P St → St 0 (s₁.heap.push o) → (∀ b ∈ fp, b ≤ s₁.heap.objs.size) → (∀ b ∈ fp, b = s₁.heap.objs.size ∨ b ∈ src) → Q (.ref s₁.heap.objs.size) { s₁ with heap := s₁.heap.push o }) →
    wpAny (model prog w) A (pyIter xv) Q E s₁
theorem src_str {s₁ : Shared} (x : Str) (t : Tok) : SrcOk prog w (.str x t) x.cps.size (SignAt x) [] s₁ := fun A Q E hA hQ =>
  wpAny_pyIter_str fun o St hW h0 => hQ o _ St (hW A hA) h0 (by simp) (by simp)
theorem src_bytes {s₁ : Shared} (b : Array UInt8) (t : Tok) : SrcOk prog w (.bytes b t) b.size (fun i v => ∃ c u, b[i]? = some c ∧ v = .int (c.toNat : Int) u) [] s₁ := fun A Q E hA hQ =>
  KBw.pyIter_bytes (hQ _ _ _ (KBw.walks hA _ b t) ⟨_, Heap.get?_push_size _ rfl, rfl, rfl⟩ (by simp) (by simp))
theorem src_list {s₁ : Shared} {l : Addr} {items : Array Value} (hl : s₁.heap.IsList l items) : SrcOk prog w (.ref l) items.size (fun i v => items[i]? = some v) [l] s₁ := fun A Q E hA hQ => by
  obtain ⟨ol, hol, _⟩ := id hl
  have hlt := Heap.lt_size hol
  refine wpAny_pyIter_list hl (hQ _ _ _ (Walks.list hA _ l (Nat.ne_of_lt hlt) items) ⟨⟨_, Heap.get?_push_size _ rfl, rfl, rfl⟩, hl.at fun o e => Heap.get?_push_of_some _ e⟩ ?_ (by intro b hb; rcases List.mem_cons.mp hb with rfl | hb; exact .inl rfl; exact .inr hb))
  intro b hb
  rcases List.mem_cons.mp hb with rfl | hb
  · exact Nat.le_refl _
  · rw [List.mem_singleton.mp hb]; exact Nat.le_of_lt hlt
/-- a comprehension that is bound to a name -/
theorem comp_as {s : Shared} {elt iter : Expr} {x y : Str} {px py : Pos} {ifs : List Expr} {scope : Scope} {cl : List (Str × Addr)} {pos spos : Pos} {h₀ : Heap} {Q : Flow → Shared → Prop} (p : Value → Bool) (G : Value → Value → Prop) (hh : A.handled = none)
    (hsw : swapsWith (.ListComp elt [⟨.Name x px, iter, ifs, 0⟩] scope pos) (some (.Name y py)) spos.line env = pure true)
    (hclos : closureFor scope env = pure cl) (hcell : ∀ z ∈ scope.names, z.2 ≠ .cell) (hkind : scope.kind = .function)
    (hnames : ∀ z ∈ scope.names, z.2 = .local → scope.names.lookup z.1 = some .local) (hx : scope.names.lookup x = some .local)
    (hy : env.kindOf y = some .local) (hp : (env.scope.kind == .class || (env.scope.kind == .module && env.locals != env.globals)) = false)
    (h : wpAny (model prog w) A (eval iter env) (fun xv s₁ => ∃ (m : Str → Option Value) (news : Led) (n : Nat) (P : Nat → Value → Prop) (src : List Addr), Fr h₀ env.locals s₁.heap m ∧ News h₀ env.locals s₁.heap news ∧ SrcOk prog w xv n P src s₁ ∧ n ≤ 1000000 ∧
      EltOk prog w A env scope cl x h₀ m news s₁ P (testsOf ifs) (fun v ok => ok = p v) ∧ EltOk prog w A env scope cl x h₀ m news s₁ (fun i v => P i v ∧ p v = true) (eval elt) G ∧
      (∀ D h' tk ys ep (vs : List Value), Fr h₀ env.locals h' (fun z => if z = y then some (.ref D) else m z) → News h₀ env.locals h' ((D, listOf ys ep) :: news) → (∀ p ∈ news, p.1 ≠ D) → D ≠ env.locals → vs.length = n → (∀ j v, vs[j]? = some v → P j v) → Paired G (vs.filter p) ys.toList →
      (∀ b o, b ≠ env.locals → s₁.heap.get? b = some o → h'.get? b = some o) → Q .next { s₁ with heap := h', toks := tk })) E s)
    (hs : ∀ x, foldedSetIterable iter env x = pure x) :
    wpAny (model prog w) A (exec (.Assign [.Name y py] (.ListComp elt [⟨.Name x px, iter, ifs, 0⟩] scope pos) spos) env) Q E s := by
  refine wpAny_Assign_ListComp_free p G hsw hclos hcell hkind hnames hx hy hp (wpAny_mono h (fun xv s₁ h1 => ?_) fun _ _ e => e) hs
  refine hushL ?_
  intro hGG
  obtain ⟨m, news, n, P, src, F, N, hsrc, hn, ht, he, fin⟩ := h1
  k_unfold
  clear hGG
  exact hsrc A _ _ hh fun o fp St W h0 hfp _ => comp_push_as p G F N W hn h0 hfp ht he fin
/-- a comprehension that is a value -/
theorem comp_val {s : Shared} {elt iter : Expr} {x : Str} {px : Pos} {ifs : List Expr} {scope : Scope} {cl : List (Str × Addr)} {pos : Pos} {h₀ : Heap} {Q : Value → Shared → Prop} (p : Value → Bool) (G : Value → Value → Prop) (hh : A.handled = none)
    (hclos : closureFor scope env = pure cl) (hcell : ∀ z ∈ scope.names, z.2 ≠ .cell) (hkind : scope.kind = .function)
    (hnames : ∀ z ∈ scope.names, z.2 = .local → scope.names.lookup z.1 = some .local) (hx : scope.names.lookup x = some .local)
    (h : wpAny (model prog w) A (eval iter env) (fun xv s₁ => ∃ (m : Str → Option Value) (news : Led) (n : Nat) (P : Nat → Value → Prop) (src : List Addr), Fr h₀ env.locals s₁.heap m ∧ News h₀ env.locals s₁.heap news ∧ SrcOk prog w xv n P src s₁ ∧ n ≤ 1000000 ∧
      EltOk prog w A env scope cl x h₀ m news s₁ P (testsOf ifs) (fun v ok => ok = p v) ∧ EltOk prog w A env scope cl x h₀ m news s₁ (fun i v => P i v ∧ p v = true) (eval elt) G ∧
      (∀ D h' tk ys ep (vs : List Value), Fr h₀ env.locals h' m → News h₀ env.locals h' ((D, listOf ys ep) :: news) → (∀ p ∈ news, p.1 ≠ D) → D ≠ env.locals → vs.length = n → (∀ j v, vs[j]? = some v → P j v) → Paired G (vs.filter p) ys.toList →
      (∀ b o, s₁.heap.get? b = some o → h'.get? b = some o) → Q (.ref D) { s₁ with heap := h', toks := tk })) E s)
    (hs : ∀ x, foldedSetIterable iter env x = pure x) :
    wpAny (model prog w) A (eval (.ListComp elt [⟨.Name x px, iter, ifs, 0⟩] scope pos) env) Q E s := by
  refine wpAny_ListComp_free p G hclos hcell hkind hnames hx (wpAny_mono h (fun xv s₁ h1 => ?_) fun _ _ e => e) hs
  refine hushL ?_
  intro hGG
  obtain ⟨m, news, n, P, src, F, N, hsrc, hn, ht, he, fin⟩ := h1
  k_unfold
  clear hGG
  exact hsrc A _ _ hh fun o fp St W h0 hfp _ => comp_push p G F N W hn h0 hfp ht he fin
theorem testsOf_nil {scope : Scope} {cl : List (Str × Addr)} {x : Str} {h₀ : Heap} {m : Str → Option Value} {news : Led} {s₁ : Shared} {P : Nat → Value → Prop} :
    EltOk prog w A env scope cl x h₀ m news s₁ P (testsOf []) (fun _ ok => ok = true) :=
  fun _ _ _ _ _ _ _ _ _ _ _ _ => wpAny_pure ⟨rfl, _, _, rfl, fun _ _ e => e⟩
/-- a turn's end -/
noncomputable def TurnEnd (h₀ : Heap) (L I : Addr) (J : (Str → Option Value) → Led → Prop) (own : Led) (s₁ : Shared) (Q : Flow → Shared → Prop) (f : Flow) (s₂ : Shared) : Prop :=
  match f with
  | .ret v => Q (.ret v) s₂
  | .brk => Q .next s₂
  | _ => ∃ h' tk m' news' nx, s₂ = { s₁ with heap := h', toks := tk } ∧ Fr h₀ L h' m' ∧ News h₀ L h' news' ∧ (∀ p ∈ nx, p ∈ news') ∧ (∀ p ∈ own, p ∈ news') ∧ (∀ p ∈ nx, p.1 ≠ I) ∧ J m' nx
/-- a for, by what holds between its turns -/
theorem for_go {xv : Value} {n : Nat} {P : Nat → Value → Prop} {src : List Addr} {s₁ : Shared} {h₀ : Heap} {x : Str} {body : List Stmt} {Q : Flow → Shared → Prop} {m : Str → Option Value} {news : Led} (J : Nat → (Str → Option Value) → Led → Prop) (hh : A.handled = none)
    (hsrc : SrcOk prog w xv n P src s₁) (hL : env.locals ∉ src) (F : Fr h₀ env.locals s₁.heap m) (N : News h₀ env.locals s₁.heap news) (hj : J 0 m news)
    (turn : ∀ i v m₁ nx h tk own, i < n → P i v → J i m₁ nx → (∀ p ∈ nx, p.1 ≠ s₁.heap.objs.size) → (∀ p ∈ own, p.1 = s₁.heap.objs.size ∨ p.1 ∈ src) → Fr h₀ env.locals h (fun y => if y = x then some v else m₁ y) → News h₀ env.locals h (nx ++ own) →
      wpAny (model prog w) A (execs body env) (TurnEnd h₀ env.locals s₁.heap.objs.size (J (i + 1)) own { s₁ with heap := h, toks := tk } Q) E { s₁ with heap := h, toks := tk })
    (done : ∀ m₁ nx h tk, J n m₁ nx → Fr h₀ env.locals h m₁ → News h₀ env.locals h nx → Q .next { s₁ with heap := h, toks := tk }) :
    wpAny (model prog w) A (pyIter xv) (fun it s₂ => LoopAtV prog w A h₀ env x body Q E it s₂) E s₁ := by
  refine hsrc A _ _ hh fun o fp St W h0 hfp hsub => ?_
  have hnI : ∀ p ∈ news, p.1 ∉ [s₁.heap.objs.size] := fun p hp hI => absurd (Heap.lt_size (N p hp).1) ((List.mem_singleton.mp hI) ▸ Nat.lt_irrefl _)
  have hLf : env.locals ∉ fp := fun hm => (hsub _ hm).elim (fun e => absurd F.ns.lt (e ▸ Nat.lt_irrefl _)) hL
  refine ⟨_, fp, _, n, P, St, m, news, J, rfl, W, hLf, ?_, hnI, h0, F.push o, (fun p hp => ⟨Heap.get?_push_of_some _ (N p hp).1, (N p hp).2⟩), hj, ?_, ?_⟩
  · intro b hb
    rw [List.mem_singleton.mp hb]
    exact next_is_new F
  · rintro i v m₁ nx s₃ own ⟨hh', tk', rfl⟩ hin hP hJ hoff hown _ _ _ F₁ N₁
    have N₂ : News h₀ env.locals hh' (nx ++ own) := fun p hp => N₁ p ((List.mem_append.mp hp).elim (fun h => List.mem_append.mpr (.inr h)) fun h => List.mem_append.mpr (.inl h))
    refine wpAny_mono (turn i v m₁ nx hh' tk' own hin hP hJ (fun p hp e => hoff p hp (by rw [e]; exact .head _)) (fun p hp => hsub _ (hown p hp)) F₁ N₂) (fun f s₄ hq => ?_) fun _ _ e => e
    have fin : (∃ h' tk m' news' nx, s₄ = { s₁ with heap := h', toks := tk } ∧ Fr h₀ env.locals h' m' ∧ News h₀ env.locals h' news' ∧ (∀ p ∈ nx, p ∈ news') ∧ (∀ p ∈ own, p ∈ news') ∧ (∀ p ∈ nx, p.1 ≠ s₁.heap.objs.size) ∧ J (i + 1) m' nx) →
        LoopStepU h₀ env.locals [s₁.heap.objs.size] own (J (i + 1)) { s₁ with heap := hh', toks := tk' } .next s₄ := by
      intro zy1
      refine hushL ?_
      intro hGG
      obtain ⟨h', tk, m', news', nx', e, F', N', hn, ho, ha, hm⟩ := zy1
      k_unfold
      clear hGG
      exact ⟨rfl, h', tk, m', nx', e, F', fun p hp => N' p ((List.mem_append.mp hp).elim (ho p) (hn p)), fun p hp hq => ha p hp (List.mem_singleton.mp hq), hm⟩
    cases f with
    | ret v => exact .ret hq
    | brk => exact .brk hq
    | next => exact .next (fin hq)
    | cont => exact .cont (fin hq)
  · rintro h' tk m' nx F' N' _ hJ
    exact done m' nx h' tk hJ F' N'
end
theorem fr_map {h₀ h : Heap} {L : Addr} {m : Str → Option Value} (F : Fr h₀ L h m) : ∃ M0, M0 = m ∧ Fr h₀ L h M0 := ⟨m, rfl, F⟩
end J_Lib2
example {M : Model} {A : Around} {Q : Unit → Shared → Prop} {E : Value → Shared → Prop} {s : Shared} : wpAny M A (pure ()) Q E s ∨ True := by w_top off; first | (left; walk1; done) | (right; trivial)
section J_Lib3
section
variable {prog : Program} {w : World} {A : Around} {E : Value → Shared → Prop} {s : Shared}
theorem look_bytes_bytes : typeLookup (.type "bytes") "__bytes__" = pure (some (.builtin "bytes.__bytes__")) := by rw [typeLookup_type, builtinLookup_eq_fast]; kernel_rfl
theorem bytes_new {b : Array UInt8} {t : Tok} {Q : Value → Shared → Prop} (hQ : Q (.bytes b t) s) : codeAny (model prog w) A (.call (.builtin "bytes.__new__") ⟨[.type "bytes", .bytes b t], []⟩) (wants Q E) s := by
  refine codeAny_of_tree ?_
  show wpAny _ A.in1 (do checkBuiltinCall "bytes.__new__" ⟨[.type "bytes", .bytes b t], []⟩; again (.builtin "bytes.__new__" ⟨[.type "bytes", .bytes b t], []⟩)) _ _ s
  refine wpAny_bind (wpAny_of_eq (F.bm_newCall _) (wpAny_pure ⟨plainId_quiet F.bm_plain _, codeAny_builtin F.bm_entry ?_⟩))
  rw [Around.under_plainId F.bm_plain _]
  unfold Builtin.«bytes.__new__»
  refine wpAny_bind (wpAny_of_eq (a := true) rfl ?_)
  refine bm_if_false rfl ?_
  refine wpAny_bind (wpAny_of_eq F.bm_sub ?_)
  refine bm_if_false rfl ?_
  refine wpAny_bind (wpAny_of_eq (F.bm_bind _) ?_)
  refine wpAny_bind (wpAny_of_eq (a := ()) rfl ?_)
  refine wpAny_bind (wpAny_of_eq (a := ()) rfl ?_)
  refine bm_if_false rfl ?_
  refine wpAny_bind (wpAny_specialOf (PySem.W.typeIs_bytes _ _ _) look_bytes_bytes ?_)
  refine wpAny_bind (wpAny_rule (wpAny_bind ?_))
  refine wpAny_typeOf (PySem.W.typeIs_bytes _ _ _) ?_
  refine bm_if_true (by decide) ?_
  show wpAny _ _ (ret (.bytes b t)) _ _ _
  exact wpAny_pure hQ
theorem bytes_bytes {b : Array UInt8} {t : Tok} {Q : Value → Shared → Prop} (hQ : Q (.bytes b t) s) : wpAny (model prog w) A (call (.type "bytes") [.bytes b t]) Q E s := by
  refine callType_codes (Q₁ := fun obj s₁ => s₁.TypeIs obj "bytes" ∧ Q obj s₁) F.bm_called (F.bm_typeCall _) F.entry_object_init
    (bytes_new ⟨PySem.W.typeIs_bytes _ _ _, hQ⟩) fun obj s₁ h₁ => ?_
  exact ⟨h₁.1, F.args_object_init_2 obj _, object_init_meets F.bm_called.init.lookup F.bm_called.made (by decide) prog w A.in1 _ s₁ ⟨h₁.1, rfl, h₁.2⟩⟩
end
/-- the ledger with another object at `d` -/
noncomputable def upd (news : Led) (d : Addr) (o : Obj) : Led := news.map fun p => if p.1 = d then (d, o) else p
theorem upd_new {news : Led} {d : Addr} {o o' : Obj} (h : (d, o) ∈ news) : (d, o') ∈ upd news d o' := List.mem_map.mpr ⟨_, h, by simp⟩
theorem upd_old {news : Led} {d a : Addr} {o o' : Obj} (h : (a, o) ∈ news) (hn : a ≠ d) : (a, o) ∈ upd news d o' := List.mem_map.mpr ⟨_, h, by simp [hn]⟩
theorem upd_off {news : Led} {d : Addr} {o' : Obj} {p : Addr × Obj} (h : p ∈ news) (hn : p.1 ≠ d) : p ∈ upd news d o' := upd_old (a := p.1) (o := p.2) h hn
theorem upd_fst (news : Led) (d : Addr) (o : Obj) : (upd news d o).map (·.1) = news.map (·.1) := by
  simp only [upd, List.map_map]
  refine List.map_congr_left fun p _ => ?_
  by_cases h : p.1 = d <;> simp [h]
theorem upd_ne {news : Led} {d a : Addr} {o : Obj} (h : ∀ p ∈ news, p.1 ≠ a) : ∀ p ∈ upd news d o, p.1 ≠ a := by
  intro p hp
  have : p.1 ∈ (upd news d o).map (·.1) := List.mem_map.mpr ⟨p, hp, rfl⟩
  rw [upd_fst] at this
  obtain ⟨q, hq, e⟩ := List.mem_map.mp this
  rw [← e]; exact h q hq
theorem upd_app (a b : Led) (d : Addr) (o : Obj) : upd (a ++ b) d o = upd a d o ++ upd b d o := by simp [upd]
theorem upd_same {news : Led} {d : Addr} {o : Obj} (h : ∀ p ∈ news, p.1 ≠ d) : upd news d o = news := by
  unfold upd
  refine (List.map_congr_left fun p hp => ?_).trans (List.map_id _)
  simp [h p hp]
section
variable {prog : Program} {w : World} {K : Type} [DecidableEq K] {knd : KeyKind prog w K} {A : Around} {E : Value → Shared → Prop} {s : Shared} {h₀ : Heap} {L d : Addr} {m : Str → Option Value} {news : Led} {o : Obj} {kvs : List (K × Value)} {k : K} {key v : Value}
theorem news_upd9 (F : Fr h₀ L s.heap m) (N : News h₀ L s.heap news) (hm : (d, o) ∈ news) {h' : Heap} {o' : Obj} (hs : Heap.SameBut d s.heap h') (ho : h'.get? d = some o') : Fr h₀ L h' m ∧ News h₀ L h' (upd news d o') := by
  have z := N _ hm
  exact ⟨F.change hs z.2.1 z.2.2, N.update hm hs ho⟩
/-- a store into a dict of the ledger -/
theorem set_led {Q : Unit → Shared → Prop} (F : Fr h₀ L s.heap m) (N : News h₀ L s.heap news) (hm : (d, o) ∈ news) (hd : o.IsDictOf knd kvs) (hkey : knd.is k key = true) (hsz : kvs.length ≤ 1000)
    (h : ∀ h' o', Fr h₀ L h' m → News h₀ L h' (upd news d o') → o'.IsDictOf knd (stored kvs k v) → Q () { s with heap := h', toks := s.toks + 1 }) : wpAny (model prog w) A (setItem (.ref d) key v) Q E s := by
  have z := N _ hm
  refine wpAny_setItem_pairs (hsz := by rw [sizeLine_eq]; omega) hkey (Heap.dictOf_iff.mpr ⟨o, z.1, hd⟩) fun h' hmm hs => ?_
  obtain ⟨o', ho', hd'⟩ := Heap.dictOf_iff.mp hmm
  obtain ⟨F', N'⟩ := news_upd9 F N hm hs ho'
  exact h h' o' F' N' hd'
theorem notin_led {Q : Value → Shared → Prop} (N : News h₀ L s.heap news) (hm : (d, o) ∈ news) (hd : o.IsDictOf knd kvs) (lo : (d == sysModules) = false) (hkey : knd.is k key = true) (h : Q (.bool (!(valueAt kvs k).isSome)) { s with toks := s.toks + 1 }) :
    wpAny (model prog w) A (compareOp .NotIn key (.ref d)) Q E s := wpAny_notIn_of hkey lo (kda_dict N hm hd).mapOf h
theorem in_led {Q : Value → Shared → Prop} (N : News h₀ L s.heap news) (hm : (d, o) ∈ news) (hd : o.IsDictOf knd kvs) (lo : (d == sysModules) = false) (hkey : knd.is k key = true) (h : Q (.bool (valueAt kvs k).isSome) { s with toks := s.toks + 1 }) :
    wpAny (model prog w) A (compareOp .In key (.ref d)) Q E s := wpAny_in_of hkey lo (kda_dict N hm hd).mapOf h
end
theorem valueAt_none {K : Type} [DecidableEq K] {kvs : List (K × Value)} {k : K} (h : k ∉ kvs.map (·.1)) : valueAt kvs k = none := by
  unfold valueAt
  rw [List.find?_eq_none.mpr]; rfl
  intro p hp hq
  exact h (List.mem_map.mpr ⟨p, hp, of_decide_eq_true hq⟩)
theorem stored_new {K : Type} [DecidableEq K] {kvs : List (K × Value)} {k : K} {v : Value} (h : k ∉ kvs.map (·.1)) : stored kvs k v = kvs ++ [(k, v)] := by
  unfold stored
  rw [if_neg]
  intro hq
  obtain ⟨p, hp, e⟩ := List.any_eq_true.mp hq
  exact h (List.mem_map.mpr ⟨p, hp, of_decide_eq_true e⟩)
theorem valueAt_last {K : Type} [DecidableEq K] {kvs : List (K × Value)} {k : K} {v : Value} (h : k ∉ kvs.map (·.1)) : valueAt (kvs ++ [(k, v)]) k = some v := by
  unfold valueAt
  rw [List.find?_append, List.find?_eq_none.mpr]; simp
  intro p hp hq
  exact h (List.mem_map.mpr ⟨p, hp, of_decide_eq_true hq⟩)
theorem Spec.use {c : Cx} {f : Addr} {d u : Nat} {vs : List Value} {news : Led} {S : List Addr} {R : Value → Led → Prop} {dp un : Nat} {gd : Option (List Code)} {cn : Str} {cs : Scope} {a : Addr} {ccd : Value} {cl : List (Str × Addr)} {outer : List Env} {A₀ : Around} {base h₀ : Heap} {L : Addr} {m : Str → Option Value} {s : Shared} {Q E : Value → Shared → Prop}
    (H : Spec c f d u vs news S R) (B : Below A₀ base outer h₀) (F : Fr h₀ L s.heap m) (X : (hd.heap_1 c.w.params).In h₀) (N : News h₀ L s.heap news) (T : Top hd.view_1 LO c.mean c.mg c.mb h₀) (hk : cs.kind = .function) (hd : dp + d < recursionLimit) (hu : un + u < cLine)
    (ret : ∀ r news' h' tk', R r news' → (∀ p ∈ news, p.1 ∉ S → p ∈ news') → Fr h₀ L h' m → News h₀ L h' news' → KeepsBut S s.heap h' → Q r { s with heap := h', toks := tk' }) :
    wpAny (model PySem.Challenge.rw_pb0121_01.row.prog c.w) (ktrTop dp un gd cn cs L a ccd cl outer) (call (.ref f) vs) Q E s := H _ _ _ _ _ _ _ _ _ _ _ _ _ _ _ _ _ ⟨B, F, X, N, T, hk⟩ hd hu ret
/-- the ledger without what lies at `S` -/
noncomputable def offL (news : Led) (S : List Addr) : Led := news.filter fun p => !S.contains p.1
theorem offL_ne {news : Led} {S : List Addr} {a : Addr} (h : a ∈ S) : ∀ p ∈ offL news S, p.1 ≠ a := by
  intro p hp e
  have := (List.mem_filter.mp hp).2
  rw [e] at this
  simp [h] at this
theorem offL_mem {news : Led} {S : List Addr} {p : Addr × Obj} (h : p ∈ news) (hn : p.1 ∉ S) : p ∈ offL news S := List.mem_filter.mpr ⟨h, by simp [hn]⟩
theorem offL_sub {news : Led} {S : List Addr} {p : Addr × Obj} (h : p ∈ offL news S) : p ∈ news := (List.mem_filter.mp h).1
theorem News.sub {h₀ h : Heap} {L : Addr} {news news' : Led} (N : News h₀ L h news) (hs : ∀ p ∈ news', p ∈ news) : News h₀ L h news' := fun p hp => N p (hs p hp)
end J_Lib3
example {M : Model} {A : Around} {Q : Unit → Shared → Prop} {E : Value → Shared → Prop} {s : Shared} : wpAny M A (pure ()) Q E s ∨ True := by w_top off; first | (left; walk1; done) | (right; trivial)
section J_Lib4
noncomputable abbrev KS (w : World) := PySem.strKind PySem.Challenge.rw_pb0121_01.row.prog w
noncomputable abbrev KB (w : World) := bytesKind PySem.Challenge.rw_pb0121_01.row.prog w
theorem keyB {w : World} (b : Array UInt8) (t : Tok) : (KB w).is b.toList (.bytes b t) = true := by show (b.toList == b.toList) = true; simp
/-- the id of number n -/
noncomputable def idA (n : Nat) : Array UInt8 := #[0, 0, 0, n.toUInt8]
noncomputable def idL (n : Nat) : List UInt8 := [0, 0, 0, n.toUInt8]
theorem idA_toList (n : Nat) : (idA n).toList = idL n := rfl
theorem idL_inj {a b : Nat} (ha : a < 256) (hb : b < 256) (h : idL a = idL b) : a = b := by
  simp only [idL, List.cons.injEq, and_true, true_and] at h
  have := congrArg UInt8.toNat h
  simp [Nat.toUInt8] at this
  omega
theorem idA_size (n : Nat) : (idA n).size = 4 := rfl
/-- what stands at `a`, and `a` is none that is turned -/
noncomputable def Off (news : Led) (M : List Addr) (a : Addr) (o : Obj) : Prop := (a, o) ∈ news ∧ a ∉ M
theorem Off.to {news news' : Led} {M S : List Addr} {a : Addr} {o : Obj} (h : Off news M a o) (hs : ∀ x ∈ S, x ∈ M) (k : ∀ p ∈ news, p.1 ∉ S → p ∈ news') : Off news' M a o :=
  ⟨k _ h.1 fun e => h.2 (hs _ e), h.2⟩
inductive DeckIn (w : World) (news : Led) (d l : Addr) : Prop
  | mk (od : Obj) (xs : List Value) (ns : List Int) (ep : Nat) (x : Int) (t : Tok) (x1 : (d, od) ∈ news) (x2 : od.IsDictOf (KS w) [(Str.ofString "left", .ref l), (Str.ofString "mixed", .int x t)]) (x3 : (l, listOf xs.toArray ep) ∈ news) (r : IntsAre xs ns ∧ (∀ k ∈ ns, 0 ≤ k ∧ k < 1000003) ∧ ns.length ≤ 24 ∧ 0 ≤ x ∧ x < 1000003 ∧ d ≠ l) : DeckIn w news d l
theorem DeckIn.to {w : World} {news news' : Led} {S : List Addr} {d l : Addr} (h : DeckIn w news d l) (hd : d ∉ S) (hl : l ∉ S) (k : ∀ p ∈ news, p.1 ∉ S → p ∈ news') : DeckIn w news' d l := by
  refine hushL ?_
  intro hGG
  obtain ⟨od, xs, ns, ep, x, t, m1, hd1, m2, r⟩ := h
  k_unfold
  clear hGG
  exact ⟨od, xs, ns, ep, x, t, k _ m1 hd, hd1, k _ m2 hl, r⟩
theorem DeckIn.memd {w : World} {news : Led} {d l : Addr} (h : DeckIn w news d l) : ∃ o, (d, o) ∈ news := by
  refine hushL ?_
  intro hGG
  obtain ⟨od, xs, ns, ep, x, t, m1, hd1, m2, r⟩ := h
  k_unfold
  clear hGG
  exact ⟨_, m1⟩
theorem DeckIn.meml {w : World} {news : Led} {d l : Addr} (h : DeckIn w news d l) : ∃ o, (l, o) ∈ news := by
  refine hushL ?_
  intro hGG
  obtain ⟨od, xs, ns, ep, x, t, m1, hd1, m2, r⟩ := h
  k_unfold
  clear hGG
  exact ⟨_, m2⟩
/-- the addresses of what is fixed -/
structure Ads where
  d : Addr
  l : Addr
  hs : Addr
  dh : Addr
  kn : Addr
  st : Addr
  ds : Addr
  kp : Addr
  wd : Addr
  kw : Addr
/-- what is turned -/
noncomputable def Ads.muts (a : Ads) : List Addr := [a.d, a.l, a.kn, a.kp, a.wd, a.kw]
inductive HasherD (news : Led) (M : List Addr) (dh kn : Addr) : Prop
  | mk (h1 : Int) (t1 : Tok) (t3 : Tok) (h2 : Int) (t2 : Tok) (n : Nat) (x9 : Off news M dh (dictOf [⟨h1, .str (Str.ofString "size") t1, .int 4 t3⟩, ⟨h2, .str (Str.ofString "known") t2, .ref kn⟩] n)) : HasherD news M dh kn
noncomputable def HasherIn (news : Led) (M : List Addr) (hs dh kn : Addr) : Prop :=
  Off news M hs (instObj 120 dh) ∧ HasherD news M dh kn
inductive StoreD (news : Led) (M : List Addr) (ds hs kp : Addr) : Prop
  | mk (h1 : Int) (t1 : Tok) (h2 : Int) (t2 : Tok) (n : Nat) (x9 : Off news M ds (dictOf [⟨h1, .str (Str.ofString "hasher") t1, .ref hs⟩, ⟨h2, .str (Str.ofString "kept") t2, .ref kp⟩] n)) : StoreD news M ds hs kp
noncomputable def StoreIn (news : Led) (M : List Addr) (st ds hs kp : Addr) : Prop :=
  Off news M st (instObj 533 ds) ∧ StoreD news M ds hs kp
theorem HasherIn.to {news news' : Led} {M S : List Addr} {hs dh kn : Addr} (h : HasherIn news M hs dh kn) (hS : ∀ x ∈ S, x ∈ M) (k : ∀ p ∈ news, p.1 ∉ S → p ∈ news') : HasherIn news' M hs dh kn := by
  refine hushL ?_
  intro hGG
  obtain ⟨a, h1, t1, t3, h2, t2, n, b⟩ := h
  k_unfold
  clear hGG
  exact ⟨a.to hS k, h1, t1, t3, h2, t2, n, b.to hS k⟩
theorem StoreIn.to {news news' : Led} {M S : List Addr} {st ds hs kp : Addr} (h : StoreIn news M st ds hs kp) (hS : ∀ x ∈ S, x ∈ M) (k : ∀ p ∈ news, p.1 ∉ S → p ∈ news') : StoreIn news' M st ds hs kp := by
  refine hushL ?_
  intro hGG
  obtain ⟨a, h1, t1, h2, t2, n, b⟩ := h
  k_unfold
  clear hGG
  exact ⟨a.to hS k, h1, t1, h2, t2, n, b.to hS k⟩
structure Frame9 (news : Led) (a : Ads) : Prop where
  nodup : a.muts.Nodup
  lo : ∀ x ∈ [a.kn, a.kp, a.kw], (x == sysModules) = false
  hs : HasherIn news a.muts a.hs a.dh a.kn
  st : StoreIn news a.muts a.st a.ds a.hs a.kp
  anchor : ∃ b o, Off news a.muts b o ∧ ∀ x ∈ a.muts, x < b
theorem Frame9.fresh {news : Led} {a : Ads} (h : Frame9 news a) {D : Addr} (hD : ∀ p ∈ news, p.1 < D) : D ∉ a.muts := by
  refine hushL ?_
  intro hGG
  obtain ⟨b, o, ⟨hm, _⟩, hlt⟩ := h.anchor
  k_unfold
  clear hGG
  intro hx
  exact absurd (hlt _ hx) (Nat.lt_asymm (hD _ hm))
theorem Frame9.to {news news' : Led} {S : List Addr} {a : Ads} (h : Frame9 news a) (hS : ∀ x ∈ S, x ∈ a.muts) (k : ∀ p ∈ news, p.1 ∉ S → p ∈ news') : Frame9 news' a :=
  ⟨h.nodup, h.lo, h.hs.to hS k, h.st.to hS k, by
    refine hushL ?_
    intro hGG
    obtain ⟨b, o, hm, hlt⟩ := h.anchor
    k_unfold
    clear hGG
    exact ⟨b, o, hm.to hS k, hlt⟩⟩
/-- the dict of contents that the hasher knows -/
inductive KnIn (w : World) (news : Led) (kn : Addr) (kvs : List (List UInt8 × Value)) : Prop
  | mk (o : Obj) (x1 : (kn, o) ∈ news) (x2 : o.IsDictOf (KB w) kvs) : KnIn w news kn kvs
theorem KnIn.to {w : World} {news news' : Led} {S : List Addr} {kn : Addr} {kvs : List (List UInt8 × Value)} (h : KnIn w news kn kvs) (hS : kn ∉ S) (k : ∀ p ∈ news, p.1 ∉ S → p ∈ news') : KnIn w news' kn kvs := by
  obtain ⟨o, a, b⟩ := h
  exact ⟨o, k _ a hS, b⟩
/-- what tells contents apart -/
noncomputable abbrev Sig := Option UInt8 × Option UInt8 × Option UInt8
noncomputable def sig (l : List UInt8) : Sig := (l[0]?, l[1]?, l[l.length - 2]?)
structure Cnt where
  gone : Nat
  nb : Nat
  nt : Nat
  nc : Nat
  ng : Nat
noncomputable def Seen (k : Cnt) (l : List UInt8) : Prop :=
  (∃ g, 1 ≤ g ∧ g ≤ k.gone ∧ sig l = (some 7, some g.toUInt8, some 7)) ∨ (0 < k.nb ∧ sig l = (some 98, some 108, some 110)) ∨ (1 < k.nb ∧ sig l = (some 98, some 108, some 119)) ∨
  (0 < k.nt ∧ ∃ x, sig l = (some 116, some 114, x)) ∨ (∃ j, j < k.nc ∧ sig l = (some 99, some 111, some (97 + j).toUInt8)) ∨ (∃ j, j < k.ng ∧ sig l = (some 116, some 97, some (97 + j).toUInt8))
/-- the hasher's dict, by numbers -/
noncomputable def Hashed (w : World) (news : Led) (kn : Addr) (cnt : Nat) (k : Cnt) : Prop := ∃ kvs, KnIn w news kn kvs ∧ kvs.length = cnt ∧ ∀ p ∈ kvs, Seen k p.1
theorem Hashed.to {w : World} {news news' : Led} {S : List Addr} {kn : Addr} {cnt : Nat} {k9 : Cnt} (h : Hashed w news kn cnt k9) (hS : kn ∉ S) (k : ∀ p ∈ news, p.1 ∉ S → p ∈ news') : Hashed w news' kn cnt k9 := by
  obtain ⟨kvs, a, b⟩ := h
  exact ⟨kvs, a.to hS k, b⟩
inductive Wd (w : World) (news : Led) (a : Ads) (gone : Nat) : Prop
  | mk (o : Obj) (t : Tok) (x1 : (a.wd, o) ∈ news) (x2 : o.IsDictOf (KS w) [(Str.ofString "store", .ref a.st), (Str.ofString "hasher", .ref a.hs), (Str.ofString "known", .ref a.kw), (Str.ofString "gone", .int gone t)]) : Wd w news a gone
theorem Wd.to {w : World} {news news' : Led} {S : List Addr} {a : Ads} {gone : Nat} (h : Wd w news a gone) (hS : a.wd ∉ S) (k : ∀ p ∈ news, p.1 ∉ S → p ∈ news') : Wd w news' a gone := by
  refine hushL ?_
  intro hGG
  obtain ⟨o, t, x, y⟩ := h
  k_unfold
  clear hGG
  exact ⟨o, t, k _ x hS, y⟩
/-- the kinds: 0 blob, 1 tree, 2 commit, 3 tag -/
noncomputable def byK : Nat → Array UInt8
  | 0 => #[98, 108, 111, 98]
  | 1 => #[116, 114, 101, 101]
  | 2 => #[99, 111, 109, 109, 105, 116]
  | _ => #[116, 97, 103]
/-- an object that is kept: its number, its kind, where it leads to, where its rows lie -/
structure Rec where
  n : Nat
  k : Nat
  goal : Option Nat
  τ : Addr
  κ : Addr
noncomputable def tup2 (x y : Value) : Obj := { cls := .type "tuple", data := .seq #[x, y] }
theorem src_range {prog : Program} {w : World} {s₁ : Shared} {r : Addr} {n : Nat} {t u v : Tok} (hr : IsRange s₁.heap r 0 (n : Int) 1 t u v) (hn : n ≤ 1000) : SrcOk prog w (.ref r) n (fun i v => ∃ t, v = .int (0 + (i : Int) * 1) t) [] s₁ := fun A Q E hA hQ => by
  have hz : Builtin.Range.rangeSize 0 (n : Int) 1 = (n : Int) := by
    unfold Builtin.Range.rangeSize
    simp
    omega
  refine wpAny_pyIter_range hr ?_ (hQ _ [s₁.heap.objs.size] _ (Walks.range hA _ 0 1 n) ?_ ?_ ?_)
  · unfold Builtin.Range.small
    rw [hz]
    unfold Builtin.Range.rangeFitsLong
    simp
    omega
  · show IsRangeIter _ _ _ _ _
    rw [hz]
    simpa using Heap.get?_push_size _ rfl
  · intro b hb; rw [List.mem_singleton.mp hb]; exact Nat.le_refl _
  · intro b hb; exact .inl (List.mem_singleton.mp hb)
/-- as «for_go», the iterator's address unnamed -/
theorem for_goI {prog : Program} {w : World} {A : Around} {E : Value → Shared → Prop} {env : Env} {xv : Value} {n : Nat} {P : Nat → Value → Prop} {src : List Addr} {s₁ : Shared} {h₀ : Heap} {x : Str} {body : List Stmt} {Q : Flow → Shared → Prop} {m : Str → Option Value} {news : Led} (J : Nat → (Str → Option Value) → Led → Prop) (hh : A.handled = none)
    (hsrc : SrcOk prog w xv n P src s₁) (hL : env.locals ∉ src) (F : Fr h₀ env.locals s₁.heap m) (N : News h₀ env.locals s₁.heap news) (hj : J 0 m news)
    (turn : ∀ I i v m₁ nx h tk own, i < n → P i v → J i m₁ nx → (∀ p ∈ nx, p.1 ≠ I) → (∀ p ∈ own, p.1 = I ∨ p.1 ∈ src) → Fr h₀ env.locals h (fun y => if y = x then some v else m₁ y) → News h₀ env.locals h (nx ++ own) →
      wpAny (model prog w) A (execs body env) (TurnEnd h₀ env.locals I (J (i + 1)) own { s₁ with heap := h, toks := tk } Q) E { s₁ with heap := h, toks := tk })
    (done : ∀ m₁ nx h tk, J n m₁ nx → Fr h₀ env.locals h m₁ → News h₀ env.locals h nx → Q .next { s₁ with heap := h, toks := tk }) :
    wpAny (model prog w) A (pyIter xv) (fun it s₂ => LoopAtV prog w A h₀ env x body Q E it s₂) E s₁ :=
  for_go J hh hsrc hL F N hj (fun i v m₁ nx h tk own => turn s₁.heap.objs.size i v m₁ nx h tk own) done
/-- as «for_goI», the turn's post behind a variable -/
theorem for_goQ {prog : Program} {w : World} {A : Around} {E : Value → Shared → Prop} {env : Env} {xv : Value} {n : Nat} {P : Nat → Value → Prop} {src : List Addr} {s₁ : Shared} {h₀ : Heap} {x : Str} {body : List Stmt} {Q : Flow → Shared → Prop} {m : Str → Option Value} {news : Led} (J : Nat → (Str → Option Value) → Led → Prop) (hh : A.handled = none)
    (hsrc : SrcOk prog w xv n P src s₁) (hL : env.locals ∉ src) (F : Fr h₀ env.locals s₁.heap m) (N : News h₀ env.locals s₁.heap news) (hj : J 0 m news)
    (turn : ∀ I i v m₁ nx h tk own (QT : Flow → Shared → Prop), i < n → P i v → J i m₁ nx → (∀ p ∈ nx, p.1 ≠ I) → (∀ p ∈ own, p.1 = I ∨ p.1 ∈ src) → Fr h₀ env.locals h (fun y => if y = x then some v else m₁ y) → News h₀ env.locals h (nx ++ own) →
      (∀ h' tk' m' news' nx', Fr h₀ env.locals h' m' → News h₀ env.locals h' news' → (∀ p ∈ nx', p ∈ news') → (∀ p ∈ own, p ∈ news') → (∀ p ∈ nx', p.1 ≠ I) → J (i + 1) m' nx' → QT .next { s₁ with heap := h', toks := tk' }) →
      wpAny (model prog w) A (execs body env) QT E { s₁ with heap := h, toks := tk })
    (done : ∀ m₁ nx h tk, J n m₁ nx → Fr h₀ env.locals h m₁ → News h₀ env.locals h nx → Q .next { s₁ with heap := h, toks := tk }) :
    wpAny (model prog w) A (pyIter xv) (fun it s₂ => LoopAtV prog w A h₀ env x body Q E it s₂) E s₁ :=
  for_goI J hh hsrc hL F N hj (fun I i v m₁ nx h tk own hi hv hJ hI ho F' N' => turn I i v m₁ nx h tk own _ hi hv hJ hI ho F' N' (fun h' tk' m' news' nx' F9 N9 hs9 ho9 hI9 hJ9 =>
    ⟨h', tk', m', news', nx', rfl, F9, N9, hs9, ho9, hI9, hJ9⟩)) done
theorem u8_ne {a b : Nat} (ha : a < 256) (hb : b < 256) (h : a ≠ b) : a.toUInt8 ≠ b.toUInt8 := fun e => by
  have := congrArg UInt8.toNat e
  simp [Nat.toUInt8] at this
  omega
theorem not_seen_gap {k : Cnt} {l : List UInt8} {g : Nat} (hg : k.gone < g) (h : g < 256) (hs : sig l = (some 7, some g.toUInt8, some 7)) : ¬ Seen k l := by
  unfold Seen
  rw [hs]
  rintro (⟨g', _, h2, e⟩ | ⟨_, e⟩ | ⟨_, e⟩ | ⟨_, _, e⟩ | ⟨_, _, e⟩ | ⟨_, _, e⟩) <;> simp only [Prod.mk.injEq, Option.some.injEq] at e
  · exact u8_ne (by omega) (by omega) (by omega) e.2.1
  all_goals exact absurd e.1 (by decide)
theorem Seen.up {k k' : Cnt} {l : List UInt8} (h : Seen k l) (h1 : k.gone ≤ k'.gone) (h2 : k.nb ≤ k'.nb) (h3 : k.nt ≤ k'.nt) (h4 : k.nc ≤ k'.nc) (h5 : k.ng ≤ k'.ng) : Seen k' l := by
  rcases h with ⟨g, a, b, e⟩ | ⟨a, e⟩ | ⟨a, e⟩ | ⟨a, e⟩ | ⟨j, a, e⟩ | ⟨j, a, e⟩
  · exact .inl ⟨g, a, by omega, e⟩
  · exact .inr (.inl ⟨by omega, e⟩)
  · exact .inr (.inr (.inl ⟨by omega, e⟩))
  · exact .inr (.inr (.inr (.inl ⟨by omega, e⟩)))
  · exact .inr (.inr (.inr (.inr (.inl ⟨j, by omega, e⟩))))
  · exact .inr (.inr (.inr (.inr (.inr ⟨j, by omega, e⟩))))
theorem new_key {k : Cnt} {kvs : List (List UInt8 × Value)} {l : List UInt8} (h : ∀ p ∈ kvs, Seen k p.1) (hn : ¬ Seen k l) : l ∉ kvs.map (·.1) := by
  intro hm
  obtain ⟨p, hp, rfl⟩ := List.mem_map.mp hm
  exact hn (h p hp)
theorem seen_app {k k' : Cnt} {kvs : List (List UInt8 × Value)} {l : List UInt8} {v : Value} (h : ∀ p ∈ kvs, Seen k p.1) (hu : ∀ l, Seen k l → Seen k' l) (hl : Seen k' l) : ∀ p ∈ kvs ++ [(l, v)], Seen k' p.1 := by
  intro p hp
  rcases List.mem_append.mp hp with hp | hp
  · exact hu _ (h p hp)
  · rw [List.mem_singleton.mp hp]; exact hl
end J_Lib4
example {M : Model} {A : Around} {Q : Unit → Shared → Prop} {E : Value → Shared → Prop} {s : Shared} : wpAny M A (pure ()) Q E s ∨ True := by w_top off; first | (left; walk1; done) | (right; trivial)
section J_R1
section
variable {α β : Type} {M : Model} {A : Around} {s : Shared}
noncomputable def codeR (M : Model) (A : Around) (c : Code) (R : Result → Shared → Prop) (s : Shared) : Prop :=
  ∀ Γ p, Γ.code = c → Γ.Below A → NoDec Γ → wpCode M Γ R p s
theorem wpR_any {t : Sem α} {Q : α → Shared → Prop} (h : wpAny M A t Q (fun _ _ => False) s) : wpR M A t Q s := fun Γ p hΓ _ => h Γ p hΓ
theorem codeR_any {c : Code} {R : Result → Shared → Prop} (h : codeAny M A c R s) : codeR M A c R s := fun Γ p hc hΓ _ => h Γ p hc hΓ
theorem wpR_mono {t : Sem α} {Q Q' : α → Shared → Prop} (h : wpR M A t Q s) (hQ : ∀ a s, Q a s → Q' a s) : wpR M A t Q' s :=
  fun Γ p hΓ hN => Sem.wp_mono M Γ t (fun a _ s => hQ a s) (fun _ _ _ h => h) p s (h Γ p hΓ hN)
theorem wpR_bind {m : Sem α} {f : α → Sem β} {Q : β → Shared → Prop} (h : wpR M A m (fun a s' => wpR M A (f a) Q s') s) : wpR M A (m >>= f) Q s := fun Γ p hΓ hN => by
  rw [Sem.wp_bind']
  exact Sem.wp_mono M Γ m (fun a p' s' h' => h' Γ p' hΓ hN) (fun _ _ _ h' => h'.elim) p s (h Γ p hΓ hN)
/-- a first part that needs no look at the stack -/
theorem wpR_first {m : Sem α} {f : α → Sem β} {Q : β → Shared → Prop} (h : wpAny M A m (fun a s' => wpR M A (f a) Q s') (fun _ _ => False) s) : wpR M A (m >>= f) Q s := wpR_bind (wpR_any h)
theorem wpR_pure {a : α} {Q : α → Shared → Prop} (h : Q a s) : wpR M A (pure a) Q s := fun _ _ _ _ => h
theorem wpR_holding {vs : List Value} {m : Sem α} {Q : α → Shared → Prop} (h : wpR M A m Q s) : wpR M A (holding vs m) Q s :=
  fun Γ p hΓ hN => by rw [Sem.wp_holding]; exact h Γ p hΓ hN
theorem wpR_keep {vs : List Value} {m : Sem α} {Q : α → Shared → Prop} (h : wpR M A m Q s) : wpR M A (m.keep vs) Q s :=
  fun Γ p hΓ hN => by rw [Sem.wp_keep]; exact h Γ p hΓ hN
theorem wpR_onRaise {m : Sem α} {k : Value → Sem Unit} {Q : α → Shared → Prop} (h : wpR M A m Q s) : wpR M A (m.onRaise k) Q s := fun Γ p hΓ hN => by
  rw [Sem.wp_onRaise]
  exact Sem.wp_mono M Γ m (fun _ _ _ h' => h') (fun _ _ _ h' => h'.elim) p s (h Γ p hΓ hN)
theorem wpR_standAt {pos : Pos} {Q : Unit → Shared → Prop} (h : Q () s) : wpR M A (standAt pos) Q s := fun _ _ _ _ => h
theorem NoDec.enter {Γ : Ctx} (h : NoDec Γ) {c : Code} {hd : Option Value} {p : Pos} (hc : badC c = false) : NoDec (Γ.enter c hd p) :=
  ⟨hc, fun x hx => by
    rcases List.mem_cons.mp hx with rfl | hx
    · exact h.1
    · exact h.2 x hx⟩
theorem NoDec.goto {Γ : Ctx} (h : NoDec Γ) {c : Code} (hc : badC c = false) : NoDec (Γ.goto c) := ⟨hc, h.2⟩
theorem wpR_run {c : Code} {Q : Flow → Shared → Prop} (hb : badC c = false)
    (hc : codeR M (A.mark none) c (fun r s' => match r with | .ok f => Q f s' | .error _ => False) s) : wpR M A (run c none) Q s :=
  fun Γ p hΓ hN => by
    rw [Sem.wp_run]
    refine wpCode_mono ?_ (hc _ p rfl (hΓ.enter c none p (by intro x; cases x)) (hN.enter hb))
    intro r s' h
    cases r <;> exact h
theorem wpR_runValue {c : Code} {Q : Value → Shared → Prop} (hb : badC c = false)
    (hc : codeR M A c (fun r s' => match r with | .ok (.ret v) => Q v s' | _ => False) s) : wpR M A (runValue c) Q s := fun Γ p hΓ hN => by
  rw [Sem.wp_runValue]
  refine wpCode_mono ?_ (hc _ p rfl (hΓ.enter c none p (by intro x; cases x)) (hN.enter hb))
  intro r s' h
  rcases r with e | f
  · exact h
  · cases f <;> exact h
theorem wpR_call {f : Value} {pos : List Value} {kw : List (Str × Value)} {Q : Value → Shared → Prop}
    (hc : codeR M A (.call f ⟨pos, kw⟩) (fun r s' => match r with | .ok (.ret v) => Q v s' | _ => False) s) : wpR M A (call f pos kw) Q s := wpR_runValue rfl hc
theorem codeR_mono {c : Code} {R R' : Result → Shared → Prop} (h : codeR M A c R s) (hR : ∀ r s, R r s → R' r s) : codeR M A c R' s :=
  fun Γ p hc hΓ hN => wpCode_mono hR (h Γ p hc hΓ hN)
theorem codeR_of_tree {c : Code} {R : Result → Shared → Prop}
    (h : wpR M (A.under c) (M.den c) (fun fin s' => match fin with | .done f => R (.ok f) s' | .again c' => c'.quiet = true ∧ badC c' = false ∧ codeR M A c' R s') s) : codeR M A c R s := fun Γ p hc hΓ hN => by
  rw [wpCode_iff_wp, hc]
  refine Sem.wp_mono M Γ _ (fun fin p' s' h' => ?_) (fun _ _ _ h' => h'.elim) p s (h Γ p (hc ▸ hΓ.in) hN)
  cases fin with
  | done f => exact h'
  | again c' => exact ⟨h'.1, h'.2.2 (Γ.goto c') p' rfl (hΓ.goto c') (hN.goto h'.2.1)⟩
noncomputable def exF (self : Value) : Code × Pos → Bool
  | (.builtin "bytearray.__contains__" ⟨v :: _, _⟩, _) | (.builtin "bytearray.__mod__" ⟨v :: _, _⟩, _)
  | (.builtin "bytearray.__rmod__" ⟨_ :: v :: _, _⟩, _) | (.builtin "_struct.pack_into.held" ⟨v :: _, _⟩, _) => Builtin.Bytes.sameRef v self
  | (.builtin "bytearray.find.held" ⟨_ :: _ :: held, _⟩, _) => held.any (Builtin.Bytes.sameRef self)
  | (.builtin id ⟨v :: _, _⟩, _) => Builtin.Bytes.sameRef v self && Builtin.Bytes.decodersThatHold.contains id
  | _ => false
theorem exported_f (self : Value) (x : Code × Pos) (h : badC x.1 = false) : exF self x = false := by
  obtain ⟨c, p⟩ := x
  by_cases hc : ∃ id args, c = .builtin id args
  · obtain ⟨id, ⟨pos, kw⟩, rfl⟩ := hc
    have h2 : (_ || _) = false := (show badId id = false from h)
    have h3 := Bool.or_eq_false_iff.mp h2
    have hn : ∀ y, (["bytearray.__contains__", "bytearray.__mod__", "bytearray.__rmod__", "_struct.pack_into.held", "bytearray.find.held"] : List String).contains y = true → id ≠ y := fun y hy e => by
      rw [e] at h3
      exact absurd (h3.1.symm.trans hy) (fun e => nomatch e)
    delta exF exF.match_1
    dsimp only
    show dite _ _ _ = false
    refine (dif_neg (hn _ (by decide +kernel))).trans ?_
    refine (dif_neg (hn _ (by decide +kernel))).trans ?_
    refine (dif_neg (hn _ (by decide +kernel))).trans ?_
    refine (dif_neg (hn _ (by decide +kernel))).trans ?_
    refine (dif_neg (hn _ (by decide +kernel))).trans ?_
    cases pos with
    | nil => rfl
    | cons v r =>
      show (_ && Builtin.Bytes.decodersThatHold.contains id) = false
      rw [h3.2, Bool.and_false]
  · cases c <;> first | rfl | exact absurd ⟨_, _, rfl⟩ hc
theorem wpR_exported {self : Value} {Q : Bool → Shared → Prop} (h : Q false s) : wpR M A (Builtin.Bytes.exported self) Q s := fun Γ p _ hN => by
  have e : List.any ((Γ.code, p) :: Γ.below) (exF self) = false := by
    rw [List.any_eq_false]
    intro x hx
    have hb : badC x.1 = false := by
      rcases List.mem_cons.mp hx with rfl | hx
      · exact hN.1
      · exact hN.2 x hx
    exact ne_true_of_eq_false (exported_f self x hb)
  have h2 : Q (List.any ((Γ.code, p) :: Γ.below) (exF self)) s := by rw [e]; exact h
  exact h2
end
end J_R1
example {M : Model} {A : Around} {Q : Unit → Shared → Prop} {E : Value → Shared → Prop} {s : Shared} : wpAny M A (pure ()) Q E s ∨ True := by w_top off; first | (left; walk1; done) | (right; trivial)
section J_R2
namespace FB
theorem plainAttrs_ba : PlainAttrs "bytearray" :=
  ⟨⟨"bytearray.__getattribute__", by rw [typeLookup_type, builtinLookup_eq_fast]; kernel_rfl, by decide +kernel⟩, by rw [typeLookup_type, builtinLookup_eq_fast]; kernel_rfl⟩
theorem slot_append : Slot "bytearray" "append" "bytearray.append" :=
  .of (owner := "bytearray") (n := "append") (by rw [typeLookup_type, builtinLookup_eq_fast]; kernel_rfl) (by decide +kernel) (by decide +kernel) (by decide +kernel)
    (by first | exact .inl (by decide +kernel) | exact .inr (by decide +kernel)) (by rw [isSubtype_type]; kernel_rfl)
theorem type_append : typeOf (.builtin "bytearray.append") = pure (.type "method_descriptor") := by show builtinType _ = _; rw [builtinType_eq_fast]; kernel_rfl
theorem entry_append : entryFor table "bytearray.append" = some Builtin.«bytearray.append» := entryFor_of_tree (by kernel_rfl)
theorem slot_reverse : Slot "bytearray" "reverse" "bytearray.reverse" :=
  .of (owner := "bytearray") (n := "reverse") (by rw [typeLookup_type, builtinLookup_eq_fast]; kernel_rfl) (by decide +kernel) (by decide +kernel) (by decide +kernel)
    (by first | exact .inl (by decide +kernel) | exact .inr (by decide +kernel)) (by rw [isSubtype_type]; kernel_rfl)
theorem type_reverse : typeOf (.builtin "bytearray.reverse") = pure (.type "method_descriptor") := by show builtinType _ = _; rw [builtinType_eq_fast]; kernel_rfl
theorem entry_reverse : entryFor table "bytearray.reverse" = some Builtin.«bytearray.reverse» := entryFor_of_tree (by kernel_rfl)
theorem slot_len : Slot "bytearray" "__len__" "bytearray.__len__" :=
  .of (owner := "bytearray") (n := "__len__") (by rw [typeLookup_type, builtinLookup_eq_fast]; kernel_rfl) (by decide +kernel) (by decide +kernel) (by decide +kernel)
    (by first | exact .inl (by decide +kernel) | exact .inr (by decide +kernel)) (by rw [isSubtype_type]; kernel_rfl)
theorem entry_len : entryFor table "bytearray.__len__" = some Builtin.«bytearray.__len__» := entryFor_of_tree (by kernel_rfl)
theorem owner_ba : Manifest.owners.lookup (String.ofList ['y', 'a', 'r', 'r', 'a', 'e', 't', 'y', 'b'].reverse) = some Manifest.sig_bytearray := by kernel_rfl
theorem args_append (a b : Value) : argsOk "bytearray.append" ⟨[a, b], []⟩ := by
  unfold argsOk; rw [signature?_of (id := "bytearray.append") (n := ['d', 'n', 'e', 'p', 'p', 'a']) (o := ['y', 'a', 'r', 'r', 'a', 'e', 't', 'y', 'b']) (by kernel_rfl) owner_ba]; kernel_rfl
theorem args_reverse (a : Value) : argsOk "bytearray.reverse" ⟨[a], []⟩ := by
  unfold argsOk; rw [signature?_of (id := "bytearray.reverse") (n := ['e', 's', 'r', 'e', 'v', 'e', 'r']) (o := ['y', 'a', 'r', 'r', 'a', 'e', 't', 'y', 'b']) (by kernel_rfl) owner_ba]; kernel_rfl
theorem args_len (a : Value) : argsOk "bytearray.__len__" ⟨[a], []⟩ := by
  unfold argsOk; rw [signature?_of (id := "bytearray.__len__") (n := ['_', '_', 'n', 'e', 'l', '_', '_']) (o := ['y', 'a', 'r', 'r', 'a', 'e', 't', 'y', 'b']) (by kernel_rfl) owner_ba]; kernel_rfl
theorem entry_init : entryFor table "bytearray.__init__" = some Builtin.«bytearray.__init__» := entryFor_of_tree (by kernel_rfl)
theorem slot_init : Slot "bytearray" "__init__" "bytearray.__init__" :=
  .of (owner := "bytearray") (n := "__init__") (by rw [typeLookup_type, builtinLookup_eq_fast]; kernel_rfl) (by decide +kernel) (by decide +kernel) (by decide +kernel)
    (by first | exact .inl (by decide +kernel) | exact .inr (by decide +kernel)) (by rw [isSubtype_type]; kernel_rfl)
theorem args_init (a : Value) : argsOk "bytearray.__init__" ⟨[a], []⟩ := by
  unfold argsOk; rw [signature?_of (id := "bytearray.__init__") (n := ['_', '_', 't', 'i', 'n', 'i', '_', '_']) (o := ['y', 'a', 'r', 'r', 'a', 'e', 't', 'y', 'b']) (by kernel_rfl) owner_ba]; kernel_rfl
theorem look_release : typeLookup (.type "bytearray") "__release_buffer__" = pure (some (.builtin "bytearray.__release_buffer__")) := by rw [typeLookup_type, builtinLookup_eq_fast]; kernel_rfl
theorem look_buffer : typeLookup (.type "bytearray") "__buffer__" = pure (some (.builtin "bytearray.__buffer__")) := by rw [typeLookup_type, builtinLookup_eq_fast]; kernel_rfl
theorem none_bytes : typeLookup (.type "bytearray") "__bytes__" = pure none := by rw [typeLookup_type, builtinLookup_eq_fast]; kernel_rfl
theorem none_index : typeLookup (.type "bytearray") "__index__" = pure none := by rw [typeLookup_type, builtinLookup_eq_fast]; kernel_rfl
theorem sub_ba : isSubtype (.type "bytearray") (.type "bytearray") = pure true := by rw [isSubtype_type]; kernel_rfl
theorem mro_ba : mroOf (.type "bytearray") = pure [.type "bytearray", .type "object"] := by first | rw [mroOf_type]; kernel_rfl | kernel_rfl
end FB
section
variable {prog : Program} {w : World} {A : Around} {s : Shared}
noncomputable def baObj (b : Array UInt8) : Obj := { cls := .type "bytearray", data := .bytearray b }
theorem codeR_builtin9 {id : String} {args : Args} {b : Builtin} {R : Result → Shared → Prop} (hb : entryFor table id = some b)
    (h : wpR (model prog w) (A.under (.builtin id args)) (b args) (fun fin s' => match fin with | .done f => R (.ok f) s' | .again c' => c'.quiet = true ∧ badC c' = false ∧ codeR (model prog w) A c' R s') s) :
    codeR (model prog w) A (.builtin id args) R s := by
  refine codeR_of_tree ?_
  show wpR _ _ (match entryFor table id with | some b => b args | none => unsupported ((withoutEnding? id "#data").getD id)) _ s
  rw [hb]; exact h
theorem codeR_builtin {id : String} {args : Args} {b : Builtin} {R : Result → Shared → Prop} (hq : plainId id = true) (hb : entryFor table id = some b)
    (h : wpR (model prog w) A.in1 (b args) (fun fin s' => match fin with | .done f => R (.ok f) s' | .again c' => c'.quiet = true ∧ badC c' = false ∧ codeR (model prog w) A c' R s') s) :
    codeR (model prog w) A (.builtin id args) R s := by
  refine codeR_of_tree ?_
  rw [Around.under_plainId hq]
  show wpR _ _ (match entryFor table id with | some b => b args | none => unsupported ((withoutEnding? id "#data").getD id)) _ s
  rw [hb]; exact h
theorem codeR_call_builtin {T : String} {name : Str} {id : String} {self : Value} {rest : List Value} {b : Builtin} {R : Result → Shared → Prop} (slot : Slot T name id) (hT : s.TypeIs self T) (hb : entryFor table id = some b) (ha : argsOk id ⟨self :: rest, []⟩) (hg : badId id = false)
    (h : wpR (model prog w) A.in1 (b ⟨self :: rest, []⟩) (fun fin s' => match fin with | .done f => R (.ok f) s' | .again c' => c'.quiet = true ∧ badC c' = false ∧ codeR (model prog w) A c' R s') s) :
    codeR (model prog w) A (.call (.builtin id) ⟨self :: rest, []⟩) R s := by
  refine codeR_of_tree ?_
  show wpR _ A.in1 (do checkBuiltinCall id ⟨self :: rest, []⟩; again (.builtin id ⟨self :: rest, []⟩)) _ s
  refine wpR_first (slot.check _ _ _ _ _ _ _ _ hT ha (wpR_pure ⟨plainId_quiet slot.plain _, hg, codeR_builtin slot.plain hb h⟩))
theorem ba_write {d : Addr} {b : Array UInt8} {f : Array UInt8 → Array UInt8} {Q : Unit → Shared → Prop} {E : Value → Shared → Prop} (hd : s.heap.get? d = some (baObj b)) (hz : (f b).size ≤ 1000)
    (h : ∀ h', Heap.SameBut d s.heap h' → h'.get? d = some (baObj (f b)) → Q () { s with heap := h' }) : wpAny (model prog w) A (Builtin.Bytes.write (.ref d) f) Q E s := by
  show wpAny _ _ (updateBytearray d f) _ _ _
  unfold updateBytearray
  refine wpAny_bind (wpAny_load hd ?_)
  show wpAny _ _ (update d (Obj.mapBytearray f) >>= fun _ => lookBehind d) _ _ _
  refine wpAny_bind (wpAny_update hd ?_)
  have h2 : (s.heap.update d (Obj.mapBytearray f)).get? d = some (baObj (f b)) := Heap.get?_update_self _ hd rfl
  refine wpAny_lookBehind h2 ?_ (h _ (Heap.SameBut.update ..) h2)
  show (if (f b).size > sizeLine then some "bytearray:memory" else none) = none
  rw [if_neg]
  rw [sizeLine_eq]; omega
theorem ba_exports {d : Addr} {b : Array UInt8} {Q : Nat → Shared → Prop} {E : Value → Shared → Prop} (hd : s.heap.get? d = some (baObj b)) (h : Q 0 s) : wpAny (model prog w) A (Builtin.Bytes.exportsOf (.ref d)) Q E s := by
  unfold Builtin.Bytes.exportsOf
  exact wpAny_bind (wpAny_load hd (wpAny_pure h))
theorem ba_append {d : Addr} {b : Array UInt8} {k : Int} {t : Tok} {Q : Value → Shared → Prop} (hd : s.heap.get? d = some (baObj b)) (hk : 0 ≤ k ∧ k < 256) (hz : b.size < 1000)
    (h : ∀ h', Heap.SameBut d s.heap h' → h'.get? d = some (baObj (b.push k.toNat.toUInt8)) → Q .none { s with heap := h' }) : wpR (model prog w) A (call (.builtin "bytearray.append") [.ref d, .int k t]) Q s := by
  refine wpR_call (codeR_call_builtin FB.slot_append ⟨_, hd, rfl⟩ FB.entry_append (FB.args_append _ _) (by decide +kernel) ?_)
  unfold Builtin.«bytearray.append»
  refine wpR_first (m := selfAndOne "bytearray.append" _) (wpAny_pure ?_)
  refine wpR_first (wpAny_bind (wpAny_of_eq (rfl : asIndex (.int k t) = pure k) ?_))
  refine bm_if_false (by simp only [Bool.or_eq_false_iff, decide_eq_false_iff_not]; omega) ?_
  refine wpAny_pure ?_
  refine wpR_bind ?_
  unfold Builtin.Bytes.checkResize
  refine wpR_bind ?_
  refine wpR_bind (wpR_exported ?_)
  refine wpR_any (wpAny_bind (ba_exports hd (wpAny_pure ?_)))
  refine wpR_pure ?_
  refine wpR_first (ba_write hd (by rw [Array.size_push]; omega) fun h' h1 h2 => ?_)
  exact wpR_pure (h h' h1 h2)
theorem ba_reverse {d : Addr} {b : Array UInt8} {Q : Value → Shared → Prop} {E : Value → Shared → Prop} (hd : s.heap.get? d = some (baObj b)) (hz : b.size < 1000)
    (h : ∀ h', Heap.SameBut d s.heap h' → h'.get? d = some (baObj b.reverse) → Q .none { s with heap := h' }) : wpAny (model prog w) A (call (.builtin "bytearray.reverse") [.ref d]) Q E s := by
  refine wpAny_call_entry FB.slot_reverse ⟨_, hd, rfl⟩ FB.entry_reverse ?_ (FB.args_reverse _)
  unfold Builtin.«bytearray.reverse»
  refine wpAny_bind (m := selfOnly "bytearray.reverse" _) (wpAny_pure ?_)
  refine wpAny_bind (ba_write hd (by rw [Array.size_reverse]; omega) fun h' h1 h2 => ?_)
  exact wpAny_pure ⟨_, rfl, h h' h1 h2⟩
theorem ba_len {d : Addr} {b : Array UInt8} {Q : Value → Shared → Prop} {E : Value → Shared → Prop} (hd : s.heap.get? d = some (baObj b)) (hz : b.size < 1000)
    (h : Q (.int b.size (s.toks + 1)) { s with toks := s.toks + 1 + 1 }) : wpAny (model prog w) A (call (.builtin "len") [.ref d]) Q E s := by
  refine call_len_slot (n := b.size) ⟨_, hd, rfl⟩ FB.slot_len (fun Q' hq => ?_) (by omega) (by omega) h
  refine wpAny_call_entry FB.slot_len ⟨_, hd, rfl⟩ FB.entry_len ?_ (FB.args_len _)
  unfold Builtin.«bytearray.__len__»
  refine wpAny_bind (m := slotArgs "__len__" 0 _) (wpAny_pure ?_)
  refine wpAny_bind ?_
  unfold Builtin.Bytes.payload Builtin.Bytes.payload?
  refine wpAny_bind (wpAny_bind (wpAny_load hd ?_))
  refine wpAny_pure (wpAny_pure ?_)
  refine wpAny_bind (wpAny_mkInt ?_)
  exact wpAny_pure ⟨_, rfl, hq⟩
theorem ba_own {d : Addr} {b : Array UInt8} {nm : String} {id : String} {Q : Bool → Shared → Prop} {E : Value → Shared → Prop} (hd : s.heap.get? d = some (baObj b)) (hl : typeLookup (.type "bytearray") nm = pure (some (.builtin id))) (he : id.endsWith ("." ++ nm) = true) (hr : id.dropRight (nm.length + 1) = "bytearray") (h : Q true s) :
    wpAny (model prog w) A (Builtin.Bytes.slotIsOwn (.ref d) nm) Q E s := by
  unfold Builtin.Bytes.slotIsOwn
  refine wpAny_bind (wpAny_specialOf ⟨_, hd, rfl⟩ hl ?_)
  show wpAny _ _ (if (!id.endsWith ("." ++ nm)) = true then _ else _) _ _ _
  refine bm_if_false (by rw [he]; rfl) ?_
  refine wpAny_isInstance ⟨_, hd, rfl⟩ (by rw [hr]; exact FB.sub_ba) h
theorem ba_bytes {d : Addr} {b : Array UInt8} {Q : Value → Shared → Prop} {E : Value → Shared → Prop} (hd : s.heap.get? d = some (baObj b)) (hz : b.size < 1000)
    (h : ∀ t k, Q (.bytes b t) { s with toks := k }) : wpAny (model prog w) A (call (.type "bytes") [.ref d]) Q E s := by
  have hT : s.TypeIs (.ref d) "bytearray" := ⟨_, hd, rfl⟩
  refine callType_codes (Q₁ := fun obj s₁ => s₁.TypeIs obj "bytes" ∧ Q obj s₁) F.bm_called (F.bm_typeCall _) F.entry_object_init ?_ fun obj s₁ h₁ => ?_
  · refine codeAny_of_tree ?_
    show wpAny _ A.in1.in1 (do checkBuiltinCall "bytes.__new__" ⟨[.type "bytes", .ref d], []⟩; again (.builtin "bytes.__new__" ⟨[.type "bytes", .ref d], []⟩)) _ _ s
    refine wpAny_bind (wpAny_of_eq (F.bm_newCall _) (wpAny_pure ⟨plainId_quiet F.bm_plain _, codeAny_builtin F.bm_entry ?_⟩))
    rw [Around.under_plainId F.bm_plain _]
    unfold Builtin.«bytes.__new__»
    refine wpAny_bind (wpAny_of_eq (a := true) rfl ?_)
    refine bm_if_false rfl ?_
    refine wpAny_bind (wpAny_of_eq F.bm_sub ?_)
    refine bm_if_false rfl ?_
    refine wpAny_bind (wpAny_of_eq (F.bm_bind _) ?_)
    refine wpAny_bind (wpAny_of_eq (a := ()) rfl ?_)
    refine wpAny_bind (wpAny_of_eq (a := ()) rfl ?_)
    refine bm_if_false rfl ?_
    refine wpAny_bind (wpAny_specialOf hT FB.none_bytes ?_)
    refine wpAny_bind (wpAny_bind ?_)
    show wpAny _ _ (asStr? (.ref d)) _ _ _
    unfold asStr?
    refine wpAny_bind (wpAny_load hd ?_)
    refine wpAny_pure (wpAny_pure ?_)
    refine bm_if_false rfl ?_
    refine wpAny_bind (wpAny_specialOf hT FB.none_index ?_)
    refine bm_if_true rfl ?_
    first
      | show wpAny _ _ (Builtin.Bytes.buffer? "bytes.__new__" (.ref d) true >>= _) _ _ _
      | (refine wpAny_bind ?_; show wpAny _ _ (Builtin.Bytes.buffer? "bytes.__new__" (.ref d) true >>= _) _ _ _)
    refine wpAny_bind ?_
    unfold Builtin.Bytes.buffer?
    refine wpAny_bind (wpAny_specialOf hT FB.look_buffer ?_)
    show wpAny _ _ (Builtin.Bytes.slotIsOwn (.ref d) "__buffer__" >>= _) _ _ _
    refine wpAny_bind (ba_own hd FB.look_buffer (by decide +kernel) (by decide +kernel) ?_)
    refine bm_if_false rfl ?_
    refine wpAny_bind (wpAny_specialOf hT FB.look_buffer ?_)
    show wpAny _ _ (Builtin.Bytes.ownRelease (.ref d) >>= _) _ _ _
    refine wpAny_bind ?_
    unfold Builtin.Bytes.ownRelease
    refine wpAny_bind (ba_own hd FB.look_release (by decide +kernel) (by decide +kernel) (wpAny_pure ?_))
    refine bm_if_false rfl ?_
    refine wpAny_bind ?_
    unfold Builtin.Bytes.payload Builtin.Bytes.payload?
    refine wpAny_bind (wpAny_bind (wpAny_load hd ?_))
    refine wpAny_pure (wpAny_pure (wpAny_pure ?_))
    refine wpAny_bind (wpAny_rule ?_)
    refine wpAny_bind (wpAny_mkBytes ?_ (by rw [sizeLine_eq]; omega))
    show wpAny _ _ (if (Value.type "bytes" == Value.type "bytes") = true then _ else _) _ _ _
    refine bm_if_true (by decide) ?_
    first
      | exact wpAny_pure ⟨PySem.W.typeIs_bytes _ _ _, h _ _⟩
      | exact wpAny_bind (wpAny_pure (wpAny_pure ⟨PySem.W.typeIs_bytes _ _ _, h _ _⟩))
  · exact ⟨h₁.1, F.args_object_init_2 obj _, object_init_meets F.bm_called.init.lookup F.bm_called.made (by decide) prog w A.in1 _ s₁ ⟨h₁.1, rfl, h₁.2⟩⟩
theorem ba_call : checkTypeCall "bytearray" ⟨[], []⟩ = pure () := by kernel_rfl
theorem ba_newCall : checkBuiltinCall "bytearray.__new__" ⟨[.type "bytearray"], []⟩ = pure () := by kernel_rfl
theorem ba_mro : ∃ c tl, mroOf (.type "bytearray") = pure (c :: tl) := ⟨_, _, FB.mro_ba⟩
theorem ba_made : Bind.madeBy (.type "bytearray") = pure (some "bytearray.__new__") := madeBy_type FB.mro_ba (by rw [typeLookup_type, builtinLookup_eq_fast]; kernel_rfl) (by decide +kernel)
theorem ba_entry_new : entryFor table "bytearray.__new__" = some Builtin.«list.__new__» :=
  entryFor_alias (id' := "list.__new__") (by kernel_rfl) (by first | rfl | decide +kernel | (unfold String.splitOn; simp +decide [String.splitOnAux])) (by decide +kernel) (by kernel_rfl)
theorem ba_owner : ("bytearray.__new__".splitOn ".__new__").headD "" = "bytearray" := by simp +decide [String.splitOn, String.splitOnAux]
theorem ba_code_new {E : Value → Shared → Prop} {Q₁ : Value → Shared → Prop} (h : Q₁ (.ref s.heap.objs.size) { s with heap := s.heap.push (baObj #[]) }) :
    codeAny (model prog w) A (.call (.builtin "bytearray.__new__") ⟨[.type "bytearray"], []⟩) (wants Q₁ E) s := by
  refine codeAny_of_tree ?_
  show wpAny _ A.in1 (do checkBuiltinCall "bytearray.__new__" ⟨[.type "bytearray"], []⟩; again (.builtin "bytearray.__new__" ⟨[.type "bytearray"], []⟩)) _ _ s
  have hp : plainId "bytearray.__new__" = true := by decide +kernel
  refine wpAny_bind (wpAny_of_eq ba_newCall (wpAny_pure ⟨plainId_quiet hp _, codeAny_builtin_stack ba_entry_new rfl fun p st => ?_⟩))
  rw [Around.under_plainId hp _]
  have hsub := FB.sub_ba
  have hown := ba_owner
  refine hushL ?_
  intro hGG
  obtain ⟨hp, g, d, tk, os⟩ := s
  k_unfold
  clear hGG
  simp only [hown]
  wp_walk
  exact h
theorem wpR_if_false {α : Type} {M : Model} {c : Bool} {a b : Sem α} {Q : α → Shared → Prop} (hc : c = false) (h : wpR M A b Q s) : wpR M A (if c = true then a else b) Q s := by
  subst hc
  exact h
theorem wpR_if_true {α : Type} {M : Model} {c : Bool} {a b : Sem α} {Q : α → Shared → Prop} (hc : c = true) (h : wpR M A a Q s) : wpR M A (if c = true then a else b) Q s := by
  subst hc
  exact h
theorem ba_init {d : Addr} {Q : Value → Shared → Prop} (hd : s.heap.get? d = some (baObj #[]))
    (h : ∀ h', Heap.SameBut d s.heap h' → h'.get? d = some (baObj #[]) → Q .none { s with heap := h' }) : wpR (model prog w) A (call (.builtin "bytearray.__init__") [.ref d]) Q s := by
  have hT : s.TypeIs (.ref d) "bytearray" := ⟨_, hd, rfl⟩
  refine wpR_call (codeR_call_builtin FB.slot_init hT FB.entry_init (FB.args_init _) (by decide +kernel) ?_)
  unfold Builtin.«bytearray.__init__»
  show wpR _ _ (Builtin.Bytes.ownRelease (.ref d) >>= _) _ _
  refine wpR_first ?_
  unfold Builtin.Bytes.ownRelease
  refine wpAny_bind (ba_own hd FB.look_release (by decide +kernel) (by decide +kernel) (wpAny_pure ?_))
  refine wpR_if_false rfl ?_
  refine wpR_first (wpAny_of_eq (a := [none, none, none]) (by kernel_rfl) ?_)
  refine wpR_first (wpAny_of_eq (a := ()) rfl ?_)
  refine wpR_first (wpAny_of_eq (a := ()) rfl ?_)
  refine wpR_bind ?_
  refine wpR_bind (wpR_exported ?_)
  refine wpR_any (wpAny_bind (ba_exports hd (wpAny_pure ?_)))
  refine wpR_if_false rfl ?_
  refine wpR_first (ba_write hd (Nat.zero_le _) fun h' h1 h2 => ?_)
  exact wpR_pure (h h' h1 h2)
end
end J_R2
example {M : Model} {A : Around} {Q : Unit → Shared → Prop} {E : Value → Shared → Prop} {s : Shared} : wpAny M A (pure ()) Q E s ∨ True := by w_top off; first | (left; walk1; done) | (right; trivial)
section J_R3
section
variable {prog : Program} {w : World} {A : Around} {s : Shared}
theorem ba_called : TypeCalled "bytearray" "bytearray.__new__" "bytearray.__init__" :=
  ⟨by decide +kernel, by decide +kernel, ba_mro, ba_made, by decide +kernel, FB.sub_ba, FB.slot_init⟩
theorem badC_tc (args : Args) : badC (.builtin "type.__call__" args) = false := by
  show badId "type.__call__" = false
  decide +kernel
theorem ba_new {Q : Value → Shared → Prop} (h : ∀ h', h'.get? s.heap.objs.size = some (baObj #[]) → (∀ b o, s.heap.get? b = some o → h'.get? b = some o) → Q (.ref s.heap.objs.size) { s with heap := h' }) :
    wpR (model prog w) A (call (.type "bytearray") []) Q s := by
  obtain ⟨c, tl, hmro⟩ := ba_mro
  refine wpR_call (codeR_of_tree ?_)
  show wpR _ _ (callAny (.type "bytearray") _) _ _
  refine wpR_pure ⟨Code.quiet_builtin _ (by decide +kernel), badC_tc _, codeR_builtin9 F.entry_type_call ?_⟩
  rw [Around.under_plain (weight_type_call_type "bytearray" [] []) rfl]
  unfold Builtin.«type.__call__»
  refine wpR_if_false ba_called.notType ?_
  refine wpR_if_false ba_called.canCreate ?_
  refine wpR_first (wpAny_of_eq (a := ()) ba_call ?_)
  refine wpR_first (wpAny_of_eq hmro ?_)
  refine wpR_if_false rfl ?_
  dsimp only
  refine wpR_first (wpAny_of_eq ba_made ?_)
  dsimp only
  refine wpR_first (wpAny_pure ?_)
  have hd : (s.heap.push (baObj #[])).get? s.heap.objs.size = some (baObj #[]) := Heap.get?_push_size _ rfl
  refine wpR_first (wpAny_holding (wpAny_call (codeAny_mono (ba_code_new (E := fun _ _ => False) (Q₁ := fun v s' => v = .ref s.heap.objs.size ∧ s' = { s with heap := s.heap.push (baObj #[]) }) ⟨rfl, rfl⟩) fun r s1 hr => ?_)))
  cases r with
  | error e => exact hr.elim
  | ok fl =>
    cases fl with
    | ret obj =>
      obtain ⟨rfl, rfl⟩ := hr
      show wpR _ _ _ _ _
      refine wpR_first (wpAny_isInstance ⟨_, hd, rfl⟩ FB.sub_ba ?_)
      refine wpR_if_false rfl ?_
      refine wpR_bind (wpR_holding ?_)
      unfold callSpecial?
      refine wpR_first (wpAny_specialOf ⟨_, hd, rfl⟩ FB.slot_init.lookup ?_)
      dsimp only
      refine wpR_holding ?_
      refine wpR_first (wpAny_of_eq (FB.slot_init.bind _) ?_)
      dsimp only
      refine wpR_bind (ba_init hd fun h' h1 h2 => ?_)
      refine wpR_pure ?_
      dsimp only
      refine wpR_if_false rfl ?_
      refine wpR_pure (h h' h2 fun b o e => ?_)
      have hb : b ≠ s.heap.objs.size := Nat.ne_of_lt (Heap.lt_size e)
      exact (h1.2 b hb).trans (Heap.get?_push_of_some _ e)
    | _ => exact hr.elim
end
end J_R3
example {M : Model} {A : Around} {Q : Unit → Shared → Prop} {E : Value → Shared → Prop} {s : Shared} : wpAny M A (pure ()) Q E s ∨ True := by w_top off; first | (left; walk1; done) | (right; trivial)
section J_R4
section
variable {prog : Program} {w : World} {A : Around} {s : Shared} {env : Env}
theorem wpR_execs_cons {M : Model} {st : Stmt} {rest : List Stmt} {Q : Flow → Shared → Prop} (h : wpR M A (exec st env) (fun f s' => match f with | .next => wpR M A (execs rest env) Q s' | f => Q f s') s) : wpR M A (execs (st :: rest) env) Q s := by
  rw [execs_cons]
  refine wpR_bind (wpR_mono h fun f s' h' => ?_)
  cases f <;> first | exact h' | exact wpR_pure h'
theorem wpR_step {M : Model} {st : Stmt} {rest : List Stmt} {Q : Flow → Shared → Prop} (h : wpAny M A (exec st env) (fun f s' => match f with | .next => wpR M A (execs rest env) Q s' | f => Q f s') (fun _ _ => False) s) : wpR M A (execs (st :: rest) env) Q s :=
  wpR_execs_cons (wpR_any h)
theorem wpR_execs_nil {M : Model} {Q : Flow → Shared → Prop} (h : Q .next s) : wpR M A (execs [] env) Q s := wpR_any (wpAny_execs_nil h)
theorem wpR_Expr {e : Expr} {pos : Pos} {Q : Flow → Shared → Prop} (h : wpR (model prog w) A (eval e env) (fun _ => Q .next) s)
    (hi : interactive env = false := by rfl) (hs : swapsWith e none pos.line env = pure false := by rfl) : wpR (model prog w) A (exec (.Expr e pos) env) Q s := by
  rw [exec_Expr (env := env) e pos hi hs]
  exact wpR_bind (wpR_standAt (wpR_bind (wpR_mono h fun v s' h' => wpR_any (wpAny_dropValue h'))))
theorem wpR_Assign_Name {x : Str} {pos' pos : Pos} {value : Expr} {Q : Flow → Shared → Prop} (h : wpR (model prog w) A (eval value env) (fun v s₁ => wpAny (model prog w) A (storeName env x v) (fun _ => Q .next) (fun _ _ => False) s₁) s)
    (hs : swapsWith value (some (.Name x pos')) pos.line env = pure false := by rfl) : wpR (model prog w) A (exec (.Assign [.Name x pos'] value pos) env) Q s := by
  rw [exec_Assign_Name (env := env) x pos' value pos hs]
  refine wpR_bind (wpR_standAt (wpR_bind (wpR_mono h fun v s' h' => wpR_bind (wpR_standAt (wpR_bind ?_)))))
  intro Γ p hΓ _
  rw [Sem.wp_bindName]
  have z : ∀ (u : Unit) (p' : Pos) (s3 : Shared), Q .next s3 → wpR (model prog w) A (pure Flow.next) Q s3 := fun _ _ s3 q => wpR_pure q
  exact Sem.wp_mono (model prog w) Γ (storeName env x v) z (fun _ _ _ q => q) p s' (h' Γ p hΓ)
theorem wpR_Return {e : Expr} {pos : Pos} {Q : Flow → Shared → Prop} (h : wpR (model prog w) A (eval e env) (fun v => Q (.ret v)) s) : wpR (model prog w) A (exec (.Return (some e) pos) env) Q s := by
  rw [exec_Return_some]
  exact wpR_bind (wpR_standAt (wpR_bind (wpR_mono h fun v s' h' => wpR_pure h')))
theorem wpR_operate {vs : List Value} {m : Sem Value} {Q : Value → Shared → Prop} {M : Model} (h : wpR M A m Q s) : wpR M A (operate vs m) Q s := fun Γ p hΓ hN => by
  rw [Sem.wp_operate]; exact h Γ p hΓ hN
/-- a binary operation whose left side wants the look at the stack -/
theorem wpR_BinOp {l r : Expr} {op : Operator} {pos : Pos} {Q : Value → Shared → Prop} (h : wpR (model prog w) A (eval l env) (fun a s₁ => wpAny (model prog w) A (eval r env) (fun b s₂ => wpAny (model prog w) A (binaryOp op a b) Q (fun _ _ => False) s₂) (fun _ _ => False) s₁) s) :
    wpR (model prog w) A (eval (.BinOp l op r pos) env) Q s := by
  rw [arm_eval_BinOp]
  refine wpR_bind (wpR_mono h fun a s₁ h₁ => wpR_bind (wpR_holding (wpR_any (wpAny_mono h₁ (fun b s₂ h₂ => wpR_bind (wpR_standAt (wpR_operate (wpR_any h₂)))) fun _ _ q => q))))
theorem wpR_spliced_nil {M : Model} {Q : List Value → Shared → Prop} (h : Q [] s) : wpR M A (spliced []) Q s := wpR_pure h
theorem wpR_spliced_cons {M : Model} {x : Sem Value} {rest : List (Bool × Sem Value)} {Q : List Value → Shared → Prop}
    (h : wpR M A x (fun v s₁ => wpR M A (spliced rest) (fun vs s₂ => Q (v :: vs) s₂) s₁) s) : wpR M A (spliced ((false, x) :: rest)) Q s := by
  rw [spliced]
  refine wpR_bind (wpR_mono h fun v s₁ h₁ => ?_)
  simp only [Bool.false_eq_true, if_false]
  exact wpR_bind (wpR_pure (wpR_bind (wpR_holding (wpR_mono h₁ fun vs s₂ h₂ => wpR_pure h₂))))
theorem wpR_evalArgs {M : Model} {f : Value} {x : Sem Value} {rest : List (Bool × Sem Value)} {Q : Args → Shared → Prop}
    (h : wpR M A (spliced ((false, x) :: rest)) (fun vs s' => Q ⟨vs, []⟩ s') s) : wpR M A (evalArgs f true ((false, x) :: rest) []) Q s := by
  unfold evalArgs
  show wpR M A (spliced ((false, x) :: rest) >>= _) Q s
  refine wpR_bind (wpR_mono h fun vs s' h' => ?_)
  refine wpR_bind (wpR_pure ?_)
  refine wpR_holding ?_
  exact wpR_bind (wpR_pure (wpR_bind (wpR_pure (wpR_pure h'))))
theorem wpR_callWith {M : Model} {P : Heap → Prop} {pos : Pos} {f : Value} {first : List Value} {args : List (Bool × Sem Value)} {keywords : List (Option Str × Sem Value)} {Q : Value → Shared → Prop} (hplain : (args.any (·.1) || keywords.any (·.1.isNone)) = false)
    (hk : ∀ h, P h → ∃ k, (k = Keeper.frame ∨ k = Keeper.machine ∨ k = Keeper.boundFrame) ∧ Looks M h (keeperOf f) k)
    (h : wpR M A (evalArgs f true args keywords) (fun a s₁ => P s₁.heap ∧ wpR M A (call f (first ++ a.pos) a.kw) Q s₁) s) : wpR M A (callWith pos f first args keywords) Q s := by
  unfold callWith
  refine wpR_bind (wpR_holding (wpR_mono h fun a s₁ h₁ => wpR_bind (wpR_standAt ?_)))
  obtain ⟨k, hk', L⟩ := hk _ h₁.1
  simp only [hplain]
  refine wpR_first (L.here ?_)
  have tail : ∀ {t : Sem Value}, wpR M A t Q s₁ → wpR M A (t >>= fun r => holding [r] point >>= fun _ => pure r) Q s₁ :=
    fun ht => wpR_bind (wpR_mono ht (fun r s₂ hr => wpR_bind (wpR_holding (wpR_any (wpAny_point (wpR_pure hr))))))
  have marked (mk : Value) : wpR M A (callMarked mk f (first ++ a.pos) a.kw) Q s₁ := by unfold callMarked; exact wpR_keep h₁.2
  rcases hk' with rfl | rfl | rfl <;> dsimp only <;> first | exact tail h₁.2 | (split <;> first | exact tail h₁.2 | exact tail (marked _))
/-- a call of what a name stands for -/
theorem wpR_Call {func : Expr} {args : List Expr} {pos : Pos} {Q : Value → Shared → Prop}
    (h : wpAny (model prog w) A (eval func env) (fun f s₁ => wpR (model prog w) A (callWith pos f [] (backTo pos (starEach args env)) []) Q s₁) (fun _ _ => False) s)
    (he : eval (.Call func args [] pos) env = (do callWith pos (← eval func env) [] (backTo pos (starEach args env)) (backToKw pos (keywordEach [] env))) := by rfl) :
    wpR (model prog w) A (eval (.Call func args [] pos) env) Q s := by
  rw [he]; exact wpR_first h
theorem wpR_codeBlock {R : Result → Shared → Prop} (h : R (.ok .next) s) : codeR (model prog w) A (.block [] env) R s := by
  refine codeR_of_tree ?_
  show wpR _ _ (do return Fin.done (← (execs [] env).onRaise (fun x => do noteFrame x env; theTreesLotGoes x))) _ s
  exact wpR_bind (wpR_onRaise (wpR_execs_nil (wpR_pure h)))
/-- a for over what an iterator gives; the body wants the look at the stack -/
theorem codeR_for {R : Result → Shared → Prop} {x : Str} {px : Pos} {it : Value} {body : List Stmt} (I : Nat → Shared → Prop)
    (turn : ∀ n s, I n s → wpAny (model prog w) A (pyNext it) (fun r s₁ => match r with
      | none => R (.ok .next) s₁
      | some v => wpAny (model prog w) A (storeName env x v) (fun _ s₂ => wpR (model prog w) A (execs body env) (fun f s₃ => f = .next ∧ ∃ m, m < n ∧ I m s₃) s₂) (fun _ _ => False) s₁) (fun _ _ => False) s) :
    ∀ n s, I n s → codeR (model prog w) A (.forLoop (.Name x px) it body [] env) R s := by
  intro n
  induction n using Nat.strongRecOn with
  | ind n ih =>
    intro s hI
    refine codeR_of_tree ?_
    rw [Around.under_of_weight rfl]
    show wpR _ _ ((forTurn (.Name x px) it body [] env).onRaise (fun x => do noteFrame x env; theTreesLotGoes x)) _ s
    refine wpR_onRaise ?_
    simp only [forTurn]
    refine wpR_bind (wpR_standAt (wpR_first (wpAny_onRaise (wpAny_mono (turn n s hI) (fun r s₁ h₁ => ?_) fun _ _ h' => h'.elim))))
    cases r with
    | none => exact wpR_pure ⟨rfl, rfl, wpR_codeBlock h₁⟩
    | some v =>
      refine wpR_first (wpAny_of_eq (show letOwnedTupleGo (.Name x px) it v = pure () from rfl) ?_)
      refine wpR_first (wpAny_assign_Name (wpAny_mono h₁ (fun _ s₂ h₂ => ?_) fun _ _ h' => h'))
      refine wpR_bind (wpR_mono h₂ fun f s₃ h₃ => ?_)
      refine hushL ?_
      intro hGG
      obtain ⟨rfl, m, hm, hI'⟩ := h₃
      k_unfold
      clear hGG
      exact wpR_pure ⟨rfl, rfl, ih m hm s₃ hI'⟩
theorem wpR_runOwn {c : Code} {Q : Flow → Shared → Prop} (hb : badC c = false) (h : codeR (model prog w) A c (fun r s' => match r with | .ok f => Q f s' | .error _ => False) s) (hh : A.handled = none) : wpR (model prog w) A (runOwn c env) Q s := by
  unfold runOwn
  refine wpR_onRaise (wpR_run hb ?_)
  have e : A.mark none = A := by
    refine hushL ?_
    intro hGG
    obtain ⟨hd, d, fr, gs, u⟩ := A
    k_unfold
    clear hGG
    cases hh
    rfl
  rw [e]; exact h
theorem wpR_For {x : Str} {px pos : Pos} {iter : Expr} {body : List Stmt} {Q : Flow → Shared → Prop}
    (h : wpAny (model prog w) A (eval iter env) (fun xv s₁ => wpAny (model prog w) A (pyIter xv) (fun it s₂ => codeR (model prog w) A (.forLoop (.Name x px) it body [] env) (fun r s' => match r with | .ok f => Q f s' | .error _ => False) s₂) (fun _ _ => False) s₁) (fun _ _ => False) s)
    (hs : ∀ v, foldedSetIterable iter env v = pure v) (hh : A.handled = none) : wpR (model prog w) A (exec (.For (.Name x px) iter body [] pos) env) Q s := by
  show wpR _ _ (do
    standAt pos
    let x0 ← foldedSetIterable iter env (← eval iter env)
    standAt iter.pos
    runOwn (.forLoop (.Name x px) (← holding [x0] (pyIter x0)) body [] env) env) Q s
  refine wpR_bind (wpR_standAt (wpR_first (wpAny_mono h (fun xv s₁ h₁ => ?_) fun _ _ q => q)))
  rw [hs]
  refine wpR_bind (wpR_pure (wpR_bind (wpR_standAt (wpR_first (wpAny_holding (wpAny_mono h₁ (fun it s₂ h₂ => ?_) fun _ _ q => q))))))
  exact wpR_runOwn rfl h₂ hh
theorem codeR_while {R : Result → Shared → Prop} {test : Expr} {body : List Stmt} (I : Nat → Shared → Prop)
    (turn : ∀ n s, I n s → wpAny (model prog w) A (isTrue test env (eval test env)) (fun b s₁ => if b = true then wpR (model prog w) A (execs body env) (fun f s₃ => f = .next ∧ ∃ m, m < n ∧ I m s₃) s₁ else R (.ok .next) s₁) (fun _ _ => False) s) :
    ∀ n s, I n s → codeR (model prog w) A (.whileLoop test body [] env) R s := by
  intro n
  induction n using Nat.strongRecOn with
  | ind n ih =>
    intro s hI
    refine codeR_of_tree ?_
    rw [Around.under_of_weight rfl]
    show wpR _ _ ((whileTurn test body [] env).onRaise (fun x => do noteFrame x env; theTreesLotGoes x)) _ s
    refine wpR_onRaise ?_
    simp only [whileTurn]
    refine wpR_first (wpAny_mono (turn n s hI) (fun b s₁ h₁ => ?_) fun _ _ q => q)
    cases b with
    | false => exact wpR_if_false rfl (wpR_bind (wpR_execs_nil (wpR_pure h₁)))
    | true =>
      refine wpR_if_true rfl (wpR_bind (wpR_mono h₁ fun f s₃ h₃ => ?_))
      refine hushL ?_
      intro hGG
      obtain ⟨rfl, m, hm, hI'⟩ := h₃
      k_unfold
      clear hGG
      exact wpR_pure ⟨rfl, rfl, ih m hm s₃ hI'⟩
theorem wpR_While {test : Expr} {body : List Stmt} {pos : Pos} {Q : Flow → Shared → Prop} (h : codeR (model prog w) A (.whileLoop test body [] env) (fun r s' => match r with | .ok f => Q f s' | .error _ => False) s) (hh : A.handled = none) :
    wpR (model prog w) A (exec (.While test body [] pos) env) Q s := by
  show wpR _ _ (do standAt pos; runOwn (.whileLoop test body [] env) env) Q s
  exact wpR_bind (wpR_standAt (wpR_runOwn rfl h hh))
end
end J_R4
example {M : Model} {A : Around} {Q : Unit → Shared → Prop} {E : Value → Shared → Prop} {s : Shared} : wpAny M A (pure ()) Q E s ∨ True := by w_top off; first | (left; walk1; done) | (right; trivial)
section J_R5
section
variable {prog : Program} {w : World} {A : Around} {s : Shared} {env : Env}
theorem wpR_Method {M : Model} {o : Expr} {name : Str} {apos pos : Pos} {args : List Expr} {pl : Sem Bool} {Q : Value → Shared → Prop}
    (h : wpAny M A (eval o env) (fun ov s₁ => wpAny M A (getMethod ov name pl) (fun fx s₂ => wpR M A (callWith pos fx.1 fx.2 (backTo pos (starEach args env)) []) Q s₂) (fun _ _ => False) s₁) (fun _ _ => False) s)
    (he : eval (.Call (.Attribute o name apos) args [] pos) env = (do
      let ov ← eval o env
      standAt apos.atName
      let (f, first) ← holding [ov] (getMethod ov name pl)
      callWith pos f first (backTo pos (starEach args env)) []) := by rfl) :
    wpR M A (eval (.Call (.Attribute o name apos) args [] pos) env) Q s := by
  rw [he]
  refine wpR_first (wpAny_mono h (fun ov s₁ h₁ => wpR_bind (wpR_standAt (wpR_first (wpAny_holding (wpAny_mono h₁ (fun fx s₂ h₂ => ?_) fun _ _ x => x))))) fun _ _ x => x)
  exact h₂
theorem wpR_args {M : Model} {e : Expr} {rest : List Expr} {pos : Pos} {Q : List Value → Shared → Prop}
    (h : wpR M A (eval e env) (fun v s₁ => wpR M A (spliced (backTo pos (starEach rest env))) (fun vs s₂ => Q (v :: vs) s₂) s₁) s)
    (he : starEach (e :: rest) env = (false, eval e env) :: starEach rest env := by rfl) : wpR M A (spliced (backTo pos (starEach (e :: rest) env))) Q s := by
  rw [he]; exact wpR_spliced_cons h
theorem wpR_args0 {M : Model} {pos : Pos} {Q : List Value → Shared → Prop} (h : Q [] s) : wpR M A (spliced (backTo pos (starEach [] env))) Q s := wpR_spliced_nil h
theorem wpR_callK {M : Model} {K : Frag} {pos : Pos} {f : Value} {first : List Value} {e : Expr} {rest : List Expr} {Q : Value → Shared → Prop} (hk : keepIn K f = true) (h : wpR M A (spliced (backTo pos (starEach (e :: rest) env))) (fun vs s₁ => K.In s₁.heap ∧ wpR M A (call f (first ++ vs)) Q s₁) s)
    (he : starEach (e :: rest) env = (false, eval e env) :: starEach rest env := by rfl) (hplain : (backTo pos (starEach rest env)).any (·.1) = false := by rfl) :
    wpR M A (callWith pos f first (backTo pos (starEach (e :: rest) env)) []) Q s := by
  rw [he] at h ⊢
  exact wpR_callWith (by show ((false || (backTo pos (starEach rest env)).any (·.1)) || false) = false; rw [hplain]; rfl) (keeps_K hk) (wpR_evalArgs h)
theorem wpR_callK0 {M : Model} {K : Frag} {pos : Pos} {f : Value} {first : List Value} {Q : Value → Shared → Prop} (X : K.In s.heap) (hk : keepIn K f = true) (h : wpR M A (call f (first ++ [])) Q s) : wpR M A (callWith pos f first (backTo pos (starEach [] env)) []) Q s :=
  wpR_callWith rfl (keeps_K hk) (wpR_any (evalArgs_nil3 ⟨X, h⟩))
theorem wpR_callB {M : Model} {id : String} {pos : Pos} {first : List Value} {e : Expr} {rest : List Expr} {Q : Value → Shared → Prop} (h : wpR M A (spliced (backTo pos (starEach (e :: rest) env))) (fun vs s₁ => wpR M A (call (.builtin id) (first ++ vs)) Q s₁) s)
    (he : starEach (e :: rest) env = (false, eval e env) :: starEach rest env := by rfl) (hplain : (backTo pos (starEach rest env)).any (·.1) = false := by rfl) :
    wpR M A (callWith pos (.builtin id) first (backTo pos (starEach (e :: rest) env)) []) Q s := by
  rw [he] at h ⊢
  exact wpR_callWith (P := fun _ => True) (by show ((false || (backTo pos (starEach rest env)).any (·.1)) || false) = false; rw [hplain]; rfl) (fun h _ => ⟨.machine, .inr (.inl rfl), .now⟩) (wpR_evalArgs (wpR_mono h fun _ _ h' => ⟨trivial, h'⟩))
theorem wpR_callT0 {M : Model} {T : String} {pos : Pos} {first : List Value} {Q : Value → Shared → Prop} (h : wpR M A (call (.type T) (first ++ [])) Q s) : wpR M A (callWith pos (.type T) first (backTo pos (starEach [] env)) []) Q s :=
  wpR_callWith (P := fun _ => True) rfl (fun h _ => ⟨.machine, .inr (.inl rfl), .now⟩) (wpR_any (evalArgs_nil3 ⟨trivial, h⟩))
theorem codeR_func {R : Result → Shared → Prop} {body : List Stmt} (h : wpR (model prog w) (A.deeper env) (execs body env) (fun f s' => R (.ok (.ret (match f with | .ret v => v | _ => .none))) s') s) : codeR (model prog w) A (.func body env) R s := by
  refine codeR_of_tree ?_
  show wpR _ (A.deeper env) (do point; match ← (execs body env).onRaise (leaving env) with | .ret v => ret v | _ => ret .none) _ s
  refine wpR_first (wpAny_point (wpR_bind (wpR_onRaise (wpR_mono h fun f s' h' => ?_))))
  cases f <;> exact wpR_pure h'
theorem codeR_call_function {R : Result → Shared → Prop} {a : Addr} {args : Args} {o : Obj} {fd : FuncData} {body : List Stmt} (hroom : A.depth < recursionLimit) (ho : s.heap.get? a = some o)
    (hd' : o.data = .func fd) (hco : fd.scope.isCoroutine = false) (hgen : fd.scope.isGenerator = false) (hbody : fd.body = .stmts body) (hcd : s.heap.CodeRec fd.code fd.qualname)
    (h : wpAny (model prog w) A.in1 (bindArgs fd args) (fun binds s₁ =>
      wpAny (model prog w) A.in1 (newFunctionEnv fd.scope fd.globals fd.closure binds (fd.qualname ++ ".<locals>.") (some a) fd.code none fd.builtins)
        (fun env s₂ => s₂.heap.NoLimit ∧ codeR (model prog w) A (.func body env) R s₂) (fun _ _ => False) s₁) (fun _ _ => False) s) :
    codeR (model prog w) A (.call (.ref a) args) R s := by
  refine codeR_of_tree ?_
  show wpR _ A.in1 (callAny (.ref a) args) _ s
  simp only [callAny]
  refine wpR_first (wpAny_load ho ?_)
  refine hushL ?_
  intro hGG
  obtain ⟨c, oc, vs, tq, hc, hoc, hdc, hq⟩ := hcd
  k_unfold
  clear hGG
  simp only [hd', callFunction, hco, hgen, hbody, hc]
  rw [hc] at h
  refine wpR_first (m := field (.ref c) 1) (wpAny_field hoc hdc hq (wpR_bind (wpR_pure ?_)))
  exact wpR_first (wpAny_mono h (fun binds s₁ h₁ => wpR_first (wpAny_mono h₁ (fun env s₂ h₂ => wpR_first (wpAny_enterFrame h₂.1 hroom
    (wpR_pure (And.intro rfl (And.intro rfl h₂.2))))) fun _ _ h' => h')) fun _ _ h' => h')
theorem codeR_call_def {R : Result → Shared → Prop} {a : Addr} {o : Obj} {fd : FuncData} {body : List Stmt} {args : Args} {binds : List (Str × Value)}
    (hroom : A.depth < recursionLimit) (ho : s.heap.get? a = some o) (hdata : o.data = .func fd) (hlim : s.heap.NoLimit) (hcd : s.heap.CodeRec fd.code fd.qualname)
    (hbody : fd.body = .stmts body) (hbind : BindsTo s fd args binds)
    (hcell : ∀ x ∈ fd.scope.names, x.2 ≠ .cell) (hloc : ∀ x ∈ binds, fd.scope.names.lookup x.1 = some .local)
    (h : ∀ h₀, h₀.Ns s.heap.objs.size (fun x => binds.reverse.lookup x) → (∀ b o, s.heap.get? b = some o → h₀.get? b = some o) →
      wpR (model prog w) (A.deeper (callEnv fd s.heap.objs.size a)) (execs body (callEnv fd s.heap.objs.size a)) (fun f s' => R (.ok (.ret (match f with | .ret v => v | _ => .none))) s')
        { s with heap := h₀, toks := s.toks + binds.length })
    (hco : fd.scope.isCoroutine = false := by rfl) (hgen : fd.scope.isGenerator = false := by rfl) (hk : fd.scope.kind = .function := by rfl) :
    codeR (model prog w) A (.call (.ref a) args) R s := by
  refine codeR_call_function hroom ho hdata hco hgen hbody hcd (hbind _ _ _ _ ?_)
  refine wpAny_newFunctionEnv hcell hloc (fun h₀ hns₀ hsb₀ => ⟨hlim.fresh _ hsb₀, codeR_func (h h₀ hns₀ fun b o e => ?_)⟩) hk
  exact hsb₀.extBut b o (Nat.ne_of_lt (Heap.lt_size e)) (Heap.get?_push_of_some _ e)
end
/-- as «Spec», for stacks on which no frame holds a bytearray -/
noncomputable def SpecR (c : Cx) (f : Addr) (d u : Nat) (vs : List Value) (news : Led) (S : List Addr) (R : Value → Led → Prop) : Prop :=
  ∀ (dp un : Nat) (gd : Option (List Code)) (cn : Str) (cs : Scope) (a : Addr) (ccd : Value) (cl : List (Str × Addr)) (outer : List Env) (A₀ : Around) (base h₀ : Heap) (L : Addr) (m : Str → Option Value) (s : Shared) (Q : Value → Shared → Prop),
    At c dp un gd cn cs a ccd cl outer A₀ base h₀ L m s.heap news → dp + d < recursionLimit → un + u < cLine →
    (∀ r news' h' tk', R r news' → (∀ p ∈ news, p.1 ∉ S → p ∈ news') → Fr h₀ L h' m → News h₀ L h' news' → KeepsBut S s.heap h' → Q r { s with heap := h', toks := tk' }) →
    wpR (model PySem.Challenge.rw_pb0121_01.row.prog c.w) (ktrTop dp un gd cn cs L a ccd cl outer) (call (.ref f) vs) Q s
theorem enterR {c : Cx} {f : Addr} {d u : Nat} {vs : List Value} {news : Led} {S : List Addr} {R : Value → Led → Prop} {name qual : Str} {params : Arguments} {body : List Stmt} {scope : Scope} {dV kV doc pm cdv ct oc : Value} {an od : Option Addr} {osl : Array (Option Value)} {binds : List (Str × Value)}
    (ho : (hd.heap_1 c.w.params).lookup f = some ⟨oc, od, .func (fnOf name qual params body scope dV kV doc pm an cdv ct), osl⟩) (hcd : codeIn (hd.heap_1 c.w.params) cdv qual = true)
    (hbind : ∀ s : Shared, (hd.heap_1 c.w.params).In s.heap → BindsTo s (fnOf name qual params body scope dV kV doc pm an cdv ct) ⟨vs, []⟩ binds) (hloc : ∀ y ∈ binds, scope.names.lookup y.1 = some .local)
    (hco : scope.isCoroutine = false) (hgen : scope.isGenerator = false) (hk : scope.kind = .function) (hcell : ∀ x ∈ scope.names, x.2 ≠ .cell)
    (h : ∀ (dp un : Nat) (gd : Option (List Code)) (outer : List Env) (A₀ : Around) (base g : Heap) (L' : Addr) (h₁ : Heap) (tk : Nat) (s : Shared),
      At c dp un gd qual scope f cdv [] outer A₀ base g L' (fun y => binds.reverse.lookup y) h₁ news → dp + d < recursionLimit + 1 → un + u < cLine + 3 →
      wpR (model PySem.Challenge.rw_pb0121_01.row.prog c.w) (ktrTop dp un gd qual scope L' f cdv [] outer) (execs body (envX qual scope L' f cdv [])) (Fin9 g L' news S R s) { s with heap := h₁, toks := tk }) :
    SpecR c f d u vs news S R := by
  intro dp un gd cn cs a ccd cl outer A₀ base h₀ L m s Q C hd9 hu9 hret
  refine hushL ?_
  intro hGG
  obtain ⟨B, F, X, N, T, hk9⟩ := C
  k_unfold
  clear hGG
  refine wpR_call ?_
  refine hushL ?_
  intro hGG
  obtain ⟨FG, BG, st, lv⟩ := groundX (A := (ktrTop dp un gd cn cs L a ccd cl outer)) (env := envX cn cs L a ccd cl) (outer := outer) (R := fun r s' => match r with | .ok (.ret v) => Q v s' | _ => False) B F N rfl rfl hk9
  k_unfold
  clear hGG
  refine codeR_call_def (fd := fnX name qual params body scope [] dV kV doc pm an cdv ct) (body := body) (binds := binds) (by show dp < recursionLimit; omega) ((X.keeps F.keep) _ _ ho) rfl (T.nolimit.keeps F.keep) (codeRec_of (X.keeps F.keep) hcd) rfl (hbind s (X.keeps F.keep)) hcell hloc (fun h₁ hns hk₁ => ?_) hco hgen hk
  have z := h (dp + 1) (un + 3) gd (envX cn cs L a ccd cl :: outer) _ base _ s.heap.objs.size h₁ (s.toks + binds.length) s
    ⟨BG, ⟨hns, fun b o e => hk₁ b o (of_hideAll _ e), Nat.le_of_eq (hideAll_size _ _)⟩, X.keeps st, (fun p hp => ⟨hk₁ _ _ (N p hp).1, Nat.ne_of_lt (Heap.lt_size (N p hp).1), hideAll_none _ (List.mem_map_of_mem hp)⟩), T.keeps st, hk⟩ (by omega) (by omega)
  refine wpR_mono z fun fl s' hf => ?_
  have q := fin_out (h₀ := h₀) (L := L) (m := m) (fun _ _ => .inr trivial) N (fun b o e n => hideAll_get _ e n) hret hf
  refine lv (flowVal fl) s' ?_
  refine hushL ?_
  intro hGG
  obtain ⟨L9, m9, n9, F9, N9, k9⟩ := q
  k_unfold
  clear hGG
  exact ⟨L9, m9, n9, F9, N9, fun a b => k9 a b⟩
theorem SpecR.use {c : Cx} {f : Addr} {d u : Nat} {vs : List Value} {news : Led} {S : List Addr} {R : Value → Led → Prop} {dp un : Nat} {gd : Option (List Code)} {cn : Str} {cs : Scope} {a : Addr} {ccd : Value} {cl : List (Str × Addr)} {outer : List Env} {A₀ : Around} {base h₀ : Heap} {L : Addr} {m : Str → Option Value} {s : Shared} {Q : Value → Shared → Prop}
    (H : SpecR c f d u vs news S R) (B : Below A₀ base outer h₀) (F : Fr h₀ L s.heap m) (X : (hd.heap_1 c.w.params).In h₀) (N : News h₀ L s.heap news) (T : Top hd.view_1 LO c.mean c.mg c.mb h₀) (hk : cs.kind = .function) (hd : dp + d < recursionLimit) (hu : un + u < cLine)
    (ret : ∀ r news' h' tk', R r news' → (∀ p ∈ news, p.1 ∉ S → p ∈ news') → Fr h₀ L h' m → News h₀ L h' news' → KeepsBut S s.heap h' → Q r { s with heap := h', toks := tk' }) :
    wpR (model PySem.Challenge.rw_pb0121_01.row.prog c.w) (ktrTop dp un gd cn cs L a ccd cl outer) (call (.ref f) vs) Q s := H _ _ _ _ _ _ _ _ _ _ _ _ _ _ _ _ ⟨B, F, X, N, T, hk⟩ hd hu ret
end J_R5
example {M : Model} {A : Around} {Q : Unit → Shared → Prop} {E : Value → Shared → Prop} {s : Shared} : wpAny M A (pure ()) Q E s ∨ True := by w_top off; first | (left; walk1; done) | (right; trivial)
section J_J1
namespace FJ
theorem slot_join : Slot "bytes" "join" "bytes.join" :=
  .of (owner := "bytes") (n := "join") (by rw [typeLookup_type, builtinLookup_eq_fast]; kernel_rfl) (by decide +kernel) (by decide +kernel) (by decide +kernel)
    (by first | exact .inl (by decide +kernel) | exact .inr (by decide +kernel)) (by rw [isSubtype_type]; kernel_rfl)
theorem entry_join : entryFor table "bytes.join" = some Builtin.«bytes.join» := entryFor_of_tree (by kernel_rfl)
theorem owner_by : Manifest.owners.lookup (String.ofList ['s', 'e', 't', 'y', 'b'].reverse) = some Manifest.sig_bytes := by kernel_rfl
theorem args_join (a b : Value) : argsOk "bytes.join" ⟨[a, b], []⟩ := by
  unfold argsOk; rw [signature?_of (id := "bytes.join") (n := ['n', 'i', 'o', 'j']) (o := ['s', 'e', 't', 'y', 'b']) (by kernel_rfl) owner_by]; kernel_rfl
theorem type_join : typeOf (.builtin "bytes.join") = pure (.type "method_descriptor") := by show builtinType _ = _; rw [builtinType_eq_fast]; kernel_rfl
theorem plainAttrs_by : PlainAttrs "bytes" :=
  ⟨⟨"bytes.__getattribute__", by rw [typeLookup_type, builtinLookup_eq_fast]; kernel_rfl, by decide +kernel⟩, by rw [typeLookup_type, builtinLookup_eq_fast]; kernel_rfl⟩
end FJ
section
variable {prog : Program} {w : World} {A : Around} {E : Value → Shared → Prop} {s : Shared}
noncomputable abbrev byV (p : Array UInt8 × Tok) : Value := .bytes p.1 p.2
theorem take_bytes {b : Array UInt8} {t : Tok} {Q : Option (Array UInt8 × Option Value) → Shared → Prop} {id : String} (h : Q (some (b, none)) s) : wpAny (model prog w) A (Builtin.Bytes.takeBufferQuiet? id (.bytes b t) 0) Q E s := by
  unfold Builtin.Bytes.takeBufferQuiet?
  refine wpAny_bind (wpAny_attempt ?_)
  unfold Builtin.Bytes.takeBuffer?
  refine wpAny_bind (wpAny_of_eq (KBy.special_eq KBy.look_buffer) ?_)
  show wpAny _ _ (Builtin.Bytes.slotIsOwn (.bytes b t) "__buffer__" >>= _) _ _ _
  refine wpAny_bind (wpAny_of_eq KBy.own_buffer ?_)
  refine bm_if_false rfl ?_
  refine wpAny_bind (wpAny_of_eq (KBy.special_eq KBy.look_buffer) ?_)
  show wpAny _ _ (Builtin.Bytes.buffer? id (.bytes b t) (0 == Builtin.Bytes.fullReadOnly) >>= _) _ _ _
  rw [show (0 == Builtin.Bytes.fullReadOnly) = false from by decide]
  exact wpAny_bind (wpAny_of_eq KBy.buffer_eq (wpAny_pure (wpAny_pure h)))
theorem joinLetGo_bytes (ps : List (Array UInt8 × Tok)) {keep : List Value} {Q : Unit → Shared → Prop} (h : Q () s) : wpAny (model prog w) A (Builtin.Bytes.joinLetGo (ps.map fun p => (byV p, none)) keep) Q E s := by
  induction ps with
  | nil => exact wpAny_pure h
  | cons p ps ih =>
    show wpAny _ _ (letGo [byV p] _ >>= fun _ => Builtin.Bytes.joinLetGo (ps.map fun p => (byV p, none)) keep) _ _ _
    exact wpAny_bind (wpAny_letGo ih)
theorem bj {l : Addr} {t : Tok} {ps : List (Array UInt8 × Tok)} {Q : Value → Shared → Prop} (hl : s.heap.IsList l (ps.map byV).toArray) (h2 : 2 ≤ ps.length) (hz : ((ps.map (·.1)).foldl (fun n b => n + b.size) 0) ≤ 16777216) (hz2 : (Builtin.Bytes.joined #[] (ps.map (·.1))).size ≤ 16777216) (h : ∀ t' k, Q (.bytes (Builtin.Bytes.joined #[] (ps.map (·.1))) t') { s with toks := k }) :
    wpAny (model prog w) A (call (.builtin "bytes.join") [.bytes #[] t, .ref l]) Q E s := by
  refine hushL ?_
  intro hGG
  obtain ⟨o, ho, hc, n, hd⟩ := id hl
  k_unfold
  clear hGG
  refine wpAny_call_entry FJ.slot_join (PySem.W.typeIs_bytes _ _ _) FJ.entry_join ?_ (FJ.args_join _ _)
  unfold Builtin.«bytes.join» Builtin.Bytes.joinM
  refine wpAny_bind (m := selfAndOne _ _) (wpAny_pure ?_)
  refine wpAny_bind (m := Builtin.Bytes.joinItems (.ref l)) ?_
  unfold Builtin.Bytes.joinItems
  refine wpAny_bind (wpAny_typeOf hl.typeIs ?_)
  refine bm_if_true rfl ?_
  refine wpAny_pure ?_
  have items : ∀ {Q : Option (Array Value) → Shared → Prop}, Q (some (ps.map byV).toArray) s → wpAny (model prog w) A.in1 (seqItems? (.ref l)) Q E s := fun hq => by
    unfold seqItems?
    refine wpAny_bind (wpAny_load ho ?_)
    rw [hd]
    exact wpAny_pure hq
  have hsz : (ps.map byV).toArray.size = ps.length := by simp
  have hget : ∀ i (hi : i < ps.length), (ps.map byV).toArray.getD i .none = .bytes ps[i].1 ps[i].2 := fun i hi => by simp [hi]
  generalize (ps.map byV).toArray = its at hsz hget items
  refine wpAny_bind (items ?_)
  dsimp only
  refine bm_if_true (by decide) ?_
  obtain ⟨l0⟩ := its
  rcases l0 with _ | ⟨a0, _ | ⟨a1, r0⟩⟩
  · simp at hsz; omega
  · simp at hsz; omega
  · refine wpAny_bind (m := forIn [:(Array.mk (a0 :: a1 :: r0)).size] (#[], []) _) ?_
    generalize (Array.mk (a0 :: a1 :: r0)) = its at hsz hget items
    rw [Std.Legacy.Range.forIn_eq_forIn_range']
    refine wpAny_forIn_list _ (fun rest pt s' => s' = s ∧ ∃ k, k ≤ ps.length ∧ rest = List.range' k (ps.length - k) ∧ pt = (((ps.take k).map (·.1)).toArray, (ps.take k).map fun p => (byV p, none))) _ ?_ ?_ _ _ ⟨rfl, 0, Nat.zero_le _, ?_, rfl⟩
    · intro i rest zy2 s' zy3
      refine hushL ?_
      intro hGG
      obtain ⟨parts, taken⟩ := zy2
      obtain ⟨rfl, k, hk, hr, hpt⟩ := zy3
      k_unfold
      clear hGG
      have hlt : k < ps.length := by
        rcases Nat.lt_or_ge k ps.length with h | h
        · exact h
        · rw [Nat.sub_eq_zero_of_le h] at hr
          exact absurd hr (List.cons_ne_nil _ _)
      obtain ⟨m, hm⟩ : ∃ m, ps.length - k = m + 1 := ⟨ps.length - k - 1, by omega⟩
      rw [hm, List.range'_succ] at hr
      injection hr with h1 h3
      subst h1 h3
      injection hpt with h1 h3
      subst h1 h3
      refine wpAny_bind (items ?_)
      dsimp only
      refine bm_if_false ?_ ?_
      · rw [show (Builtin.Bytes.Kind.bytes == Builtin.Bytes.Kind.bytearray) = false from by decide, Bool.false_or, List.any_eq_false]
        intro x hx
        obtain ⟨p, _, rfl⟩ := List.mem_map.mp hx
        exact Bool.false_ne_true
      rw [hget i hlt]
      refine wpAny_bind (wpAny_holding (take_bytes ?_))
      dsimp only
      refine wpAny_bind (items ?_)
      dsimp only
      refine bm_if_false (by simp) ?_
      refine wpAny_pure ⟨rfl, i + 1, hlt, ?_, ?_⟩
      · rw [show ps.length - (i + 1) = m from by omega]
      · have ht : ps.take (i + 1) = ps.take i ++ [ps[i]] := by rw [List.take_add_one]; simp [hlt]
        rw [ht, List.map_append, List.map_append, List.push_toArray]
        rfl
    · intro zy4 s' zy5
      refine hushL ?_
      intro hGG
      obtain ⟨parts, taken⟩ := zy4
      obtain ⟨rfl, k, hk, hr, hpt⟩ := zy5
      k_unfold
      clear hGG
      have hke : k = ps.length := by
        have := congrArg List.length hr
        simp at this
        omega
      rw [hke, List.take_length] at hpt
      injection hpt with h1 h3
      subst h1 h3
      refine wpAny_bind (m := Builtin.Bytes.payload (.bytes #[] t)) (wpAny_bind (wpAny_pure (wpAny_pure ?_)))
      refine bm_if_false ?_ ?_
      · show decide (_ > sizeLine) = false
        rw [decide_eq_false_iff_not, sizeLine_eq]
        show ¬ (Array.foldl (fun (n : Nat) (b : Array UInt8) => n + b.size) (0 * _) (List.toArray _)) > 16777216
        rw [Nat.zero_mul, List.foldl_toArray]
        exact Nat.not_lt.mpr hz
      refine wpAny_bind (m := Builtin.Bytes.Kind.new .bytes _) (wpAny_mkBytes ?_ ?_)
      · refine wpAny_bind (wpAny_holding (wpAny_point ?_))
        refine wpAny_bind (joinLetGo_bytes _ ?_)
        refine wpAny_pure ⟨_, rfl, h _ _⟩
      · show (Builtin.Bytes.joined #[] (ps.map (·.1))).size ≤ sizeLine
        rw [sizeLine_eq]
        exact hz2
    · simp [Std.Legacy.Range.size, hsz]
theorem bj1 {l : Addr} {t t0 : Tok} {b : Array UInt8} {Q : Value → Shared → Prop} (hl : s.heap.IsList l #[.bytes b t0]) (h : Q (.bytes b t0) s) :
    wpAny (model prog w) A (call (.builtin "bytes.join") [.bytes #[] t, .ref l]) Q E s := by
  refine hushL ?_
  intro hGG
  obtain ⟨o, ho, hc, n, hd⟩ := id hl
  k_unfold
  clear hGG
  refine wpAny_call_entry FJ.slot_join (PySem.W.typeIs_bytes _ _ _) FJ.entry_join ?_ (FJ.args_join _ _)
  unfold Builtin.«bytes.join» Builtin.Bytes.joinM
  refine wpAny_bind (m := selfAndOne _ _) (wpAny_pure ?_)
  refine wpAny_bind (m := Builtin.Bytes.joinItems (.ref l)) ?_
  unfold Builtin.Bytes.joinItems
  refine wpAny_bind (wpAny_typeOf hl.typeIs ?_)
  refine bm_if_true rfl ?_
  refine wpAny_pure ?_
  refine wpAny_bind (m := seqItems? (.ref l)) ?_
  unfold seqItems?
  refine wpAny_bind (wpAny_load ho ?_)
  rw [hd]
  refine wpAny_pure ?_
  refine wpAny_bind (m := typeOf (.bytes b t0)) (wpAny_typeOf (PySem.W.typeIs_bytes _ _ _) ?_)
  refine bm_if_true rfl ?_
  exact wpAny_bind (wpAny_rule (wpAny_pure ⟨_, rfl, h⟩))
theorem bj4 {l : Addr} {t t0 t1 t2 t3 : Tok} {b0 b1 b2 b3 : Array UInt8} {Q : Value → Shared → Prop} (hl : s.heap.IsList l #[.bytes b0 t0, .bytes b1 t1, .bytes b2 t2, .bytes b3 t3]) (z0 : b0.size ≤ 100) (z1 : b1.size ≤ 100) (z2 : b2.size ≤ 100) (z3 : b3.size ≤ 100) (h : ∀ t' k, Q (.bytes (b0 ++ b1 ++ b2 ++ b3) t') { s with toks := k }) :
    wpAny (model prog w) A (call (.builtin "bytes.join") [.bytes #[] t, .ref l]) Q E s := by
  have e : Builtin.Bytes.joined #[] ([(b0, t0), (b1, t1), (b2, t2), (b3, t3)].map (·.1)) = b0 ++ b1 ++ b2 ++ b3 := by simp [Builtin.Bytes.joined, List.zipIdx]
  refine bj (ps := [(b0, t0), (b1, t1), (b2, t2), (b3, t3)]) hl (by simp) (by simp; omega) (by rw [e]; simp; omega) fun t' k => ?_
  rw [e]; exact h t' k
theorem bj5 {l : Addr} {t t0 t1 t2 t3 t4 : Tok} {b0 b1 b2 b3 b4 : Array UInt8} {Q : Value → Shared → Prop} (hl : s.heap.IsList l #[.bytes b0 t0, .bytes b1 t1, .bytes b2 t2, .bytes b3 t3, .bytes b4 t4]) (z0 : b0.size ≤ 100) (z1 : b1.size ≤ 100) (z2 : b2.size ≤ 100) (z3 : b3.size ≤ 100) (z4 : b4.size ≤ 100) (h : ∀ t' k, Q (.bytes (b0 ++ b1 ++ b2 ++ b3 ++ b4) t') { s with toks := k }) :
    wpAny (model prog w) A (call (.builtin "bytes.join") [.bytes #[] t, .ref l]) Q E s := by
  have e : Builtin.Bytes.joined #[] ([(b0, t0), (b1, t1), (b2, t2), (b3, t3), (b4, t4)].map (·.1)) = b0 ++ b1 ++ b2 ++ b3 ++ b4 := by simp [Builtin.Bytes.joined, List.zipIdx]
  refine bj (ps := [(b0, t0), (b1, t1), (b2, t2), (b3, t3), (b4, t4)]) hl (by simp) (by simp; omega) (by rw [e]; simp; omega) fun t' k => ?_
  rw [e]; exact h t' k
theorem getM_join {M : Model} {b : Array UInt8} {t : Tok} {pl : Sem Bool} {Q : Value × List Value → Shared → Prop} (h : Q (.builtin "bytes.join", [.bytes b t]) s) : wpAny M A (getMethod (.bytes b t) (Str.ofString "join") pl) Q E s :=
  getMethod_builtin (PySem.W.typeIs_bytes _ _ _) FJ.plainAttrs_by FJ.slot_join FJ.type_join (fun a e => nomatch e) h
end
end J_J1
example {M : Model} {A : Around} {Q : Unit → Shared → Prop} {E : Value → Shared → Prop} {s : Shared} : wpAny M A (pure ()) Q E s ∨ True := by w_top off; first | (left; walk1; done) | (right; trivial)
section J_T2
example : (PySem.Challenge.rw_pb0121_01.row.prog = PySem.Challenge.rw_pb0121_01.row.prog) ∧ (hd.heap_1 = hd.heap_1) := by k_fill; exact ⟨rfl, rfl⟩
example : True := by
  k_with_none
  (k_with "eval ListComp" => with_reducible refine stopP0 ?_)
  (k_with "subscriptTail" => (with_reducible show wpAny _ _ (subscriptTail _ _ (Value.str _ _) (Value.int _ _)) _ _ _; refine fig_item (by omega) (by omega) ?_))
  trivial
theorem told_spec (c : Cx) (b : Array UInt8) (tb : Tok) (news : Led) (hb : b.size ≤ 100) :
   Spec c 552 3 20 [.bytes b tb] news [] (fun r n => n = news ∧ ∃ t, r = .str (hexS b) t) := by
  (refine' enter ?k6 ?k7 ?k9 ?kB ?c2 ?c3 ?c4 ?c5 ?_; (case k6 => k_is); (case k7 => k_is); (case k9 => intro s9 X9; first | exact BindsTo.of_eq rfl | exact binds_K X9 rfl (by k_is) rfl rfl rfl); (case kB => exact locs rfl); (case c2 => exact rfl); (case c3 => exact rfl); (case c4 => exact rfl); (case c5 => decide); skip)
  intro dp un gd outer A₀ base g L' h₁ tk s C hd9 hu9; obtain ⟨B, F, X, N, T, hk9⟩ := C; (try dsimp only); k_fold; (try (refine letA (P := fun A9 => wpAny _ A9 _ _ _ _) _ ?_; intro A9))
  k_steps
  unfold Stop9
  refine' wpAny_ListComp_free (fun _ => true) (fun v y => ∃ (c : UInt8) (t : Tok), (∃ u, v = Value.int (c.toNat : Int) u) ∧ y = .str ⟨#[fig (c.toNat / 16), fig (c.toNat % 16)]⟩ t) ?h1 ?h2 ?h3 ?h4 ?h5 ?h6 ?h7
  case h1 => rfl
  case h2 => decide
  case h3 => rfl
  case h4 => decide
  case h5 => rfl
  case h7 => intro _; rfl
  case h6 =>
    refine nameX_L F rfl ?_
    refine KBw.pyIter_bytes ?_
    refine ⟨_, _, _, _, _, _, rfl, KBw.walks rfl _ b tb, by rw [sizeLine_eq]; omega, ⟨_, Heap.get?_push_size _ rfl, rfl, rfl⟩, by intro q hq; rw [List.mem_singleton.mp hq, Heap.size_push]; exact Nat.lt_succ_self _, ⟨?_, ?_⟩, ?_⟩
    · intro C i v s₃ m₃ E' hC hv hn hm hkp ht
      exact wpAny_pure ⟨rfl, _, _, rfl, fun _ _ e => e⟩
    · intro C i v s₃ m₃ E' hC hv hp hn hm hkp ht
      refine hushL ?_
      intro hGG
      obtain ⟨ch, u, hbc, rfl⟩ := hv
      k_unfold
      clear hGG
      obtain ⟨e1, e2, e3⟩ := @told_u8 ch
      refine stopEnd ?_
      k_steps
      refine unstop ⟨⟨ch, _, ⟨u, rfl⟩, str1 ?_ rfl⟩, _, _, rfl, fun _ _ e => e⟩
      rw [e1, e2]
      rfl
    · intro D h' tk ys vs hD hl hpl hlen hP hF hkp
      have hf : vs.filter (fun _ => true) = vs := by simp
      rw [hf] at hF
      refine hushL ?_
      intro hGG
      obtain ⟨as, l, e1, e2, hp⟩ := strs_of_paired (f := fun c : UInt8 => (⟨#[fig (c.toNat / 16), fig (c.toNat % 16)]⟩ : Str)) hF
      k_unfold
      clear hGG
      have e3 := paired_bytes b.toList vs as (by simpa using hlen) (fun j v h => by simpa using hP j v h) hp
      subst e3
      have hk1 := keep_iter hkp
      have F1 := F.keeps hk1
      have N1 := N.grown hk1
      k_steps
      refine SC.join (list_of hl e1) e2 (joinOk_small ?_) ?_
      · simp only [List.map_map, List.length_map]
        have : ((List.map ((fun x => x.length) ∘ fun c : UInt8 => ({ cps := #[fig (c.toNat / 16), fig (c.toNat % 16)] } : Str)) b.toList)).sum = 2 * b.toList.length := by
          generalize b.toList = l
          induction l with
          | nil => rfl
          | cons c l ih => rw [List.map_cons, List.sum_cons, ih, List.length_cons]; show 2 + _ = _; omega
        rw [this]
        have : b.toList.length = b.size := by simp
        have : (Str.ofString "").length = 0 := by decide +kernel
        rw [this]
        omega
      · intro t' k
        refine ⟨_, _, F1, N1, fun p hp _ => hp, ⟨rfl, t', str1 ?_ rfl⟩, rfl, rfl, rfl⟩
        rw [join_empty]
        simp only [catS, hexS, hexL, List.flatMap_map]
end J_T2
example {M : Model} {A : Around} {Q : Unit → Shared → Prop} {E : Value → Shared → Prop} {s : Shared} : wpAny M A (pure ()) Q E s ∨ True := by w_top off; first | (left; walk1; done) | (right; trivial)
section J_T3
example : (PySem.Challenge.rw_pb0121_01.row.prog = PySem.Challenge.rw_pb0121_01.row.prog) ∧ (hd.heap_1 = hd.heap_1) := by k_fill; exact ⟨rfl, rfl⟩
example : True := by
  k_with_none
  (k_with "eval ListComp" => with_reducible refine stopP0 ?_)
  (k_with "size fits" => (rw [sizeLine_eq]; simp only [strValues, List.size_toArray, Array.size_push, List.length_map, List.length_append, List.length_cons, List.length_nil]; omega))
  (k_with "exec For" => with_reducible refine stopP1 ?_)
  (k_with "subscriptTail" => (with_reducible show wpAny _ _ (subscriptTail _ _ (Value.str _ _) (Value.int _ _)) _ _ _; refine fig_item (by omega) (by omega) ?_))
  trivial
local macro_rules | `(tactic| size_fits) => `(tactic| k_extra "size fits")
noncomputable def hexT (l : List UInt8) : List Str := l.flatMap fun c => [⟨#[fig (c.toNat / 16)]⟩, ⟨#[fig (c.toNat % 16)]⟩]
theorem hexT_len (l : List UInt8) : (hexT l).length = 2 * l.length := by
  induction l with
  | nil => rfl
  | cons c r ih => show _ = _; simp only [hexT, List.flatMap_cons, List.length_append, List.length_cons, List.length_nil] at *; rw [ih]; omega
theorem and15 : ∀ n : Fin 256, Builtin.bitAnd ((n.val : Nat) : Int) 15 = ((n.val % 16 : Nat) : Int) := by decide +kernel
theorem hexT_take {l : List UInt8} {i : Nat} {c : UInt8} (h : l[i]? = some c) : hexT (l.take (i + 1)) = hexT (l.take i) ++ [⟨#[fig (c.toNat / 16)]⟩, ⟨#[fig (c.toNat % 16)]⟩] := by
  rw [List.take_add_one, h]; simp [hexT]
theorem catS_hexT (l : List UInt8) : catS (hexT l) = ⟨(hexL l).toArray⟩ := by
  simp only [catS, hexT, hexL, List.flatMap_assoc]
  rfl
theorem hexT_vals {vals : List (Str × Tok)} {l : List UInt8} {i : Nat} (hv : vals.map (·.1) = hexT (l.take i)) (hi : i < l.length) : vals.length = 2 * i := by
  have := congrArg List.length hv
  rw [List.length_map, hexT_len, List.length_take, Nat.min_eq_left (Nat.le_of_lt hi)] at this
  exact this
theorem push2 {vals : List (Str × Tok)} {x y : Str} {t u : Tok} : ((strValues vals).toArray.push (.str x t)).push (.str y u) = (strValues (vals ++ [(x, t), (y, u)])).toArray := by simp [strValues]
theorem hex_spec (c : Cx) (b : Array UInt8) (tb : Tok) (news : Led) (hb : b.size ≤ 100) :
   Spec c 90 3 20 [.bytes b tb] news [] (fun r n => n = news ∧ ∃ t, r = .str (hexS b) t) := by
  refine' enter (binds := [(Str.ofString "octets", .bytes b tb)]) ?k6 ?k7 ?k9 ?kB ?c2 ?c3 ?c4 ?c5 ?_
  ((case k6 => k_is); (case k7 => k_is); (case k9 => intro s9 X9; first | exact BindsTo.of_eq rfl | exact binds_K X9 rfl (by k_is) rfl rfl rfl); (case kB => exact locs rfl); (case c2 => exact rfl); (case c3 => exact rfl); (case c4 => exact rfl); (case c5 => decide); skip)
  intro dp un gd outer A₀ base g L' h₁ tk s C hd9 hu9; obtain ⟨B, F, X, N, T, hk9⟩ := C; (try dsimp only); k_fold; (try (refine letA (P := fun A9 => wpAny _ A9 _ _ _ _) _ ?_; intro A9))
  k_steps
  rename_i l h2 l1 h3 F1 N1
  generalize hM0 : (fun y => if y = Str.ofString "found" then some (Value.ref l) else _) = M0 at F1
  refine KBw.pyIter_bytes ?_
  refine loop_invN (fun i m nx => ∃ vals ep, nx = (l, listOf (strValues vals).toArray ep) :: news ∧ vals.map (·.1) = hexT (b.toList.take i) ∧ ∀ z, z ≠ Str.ofString "octet" → m z = M0 z) (KBw.walks rfl _ b tb) ?_ ?_ ?_ ?_ ⟨_, Heap.get?_push_size _ rfl, rfl, rfl⟩ (F1.push _) (fun p hp => ⟨Heap.get?_push_of_some _ (N1 p hp).1, (N1 p hp).2⟩) ⟨[], 0, rfl, rfl, fun _ _ => rfl⟩ ?_ ?_
  · intro hm
    exact absurd F1.ns.lt ((List.mem_singleton.mp hm) ▸ Nat.lt_irrefl _)
  · intro b' hb
    rw [List.mem_singleton.mp hb]
    exact next_is_new F1
  · intro p hp hI
    exact absurd (Heap.lt_size (N1 p hp).1) ((List.mem_singleton.mp hI) ▸ Nat.lt_irrefl _)
  · intro p hp hI
    exact absurd (Heap.lt_size (N1 p hp).1) ((List.mem_singleton.mp hI) ▸ Nat.lt_irrefl _)
  · intro i v m₁ nx h tk own hi zy6 hadr hoff zy7 F2 N2
    refine hushL ?_
    intro hGG
    obtain ⟨ch, u, hc, rfl⟩ := zy6
    obtain ⟨vals, ep, rfl, hv, hm⟩ := zy7
    k_unfold
    clear hGG
    clear N1 F1
    rw [map_none hm, ← hM0] at F2
    dsimp only at F2 N2
    obtain ⟨e1, e2, e3⟩ := @told_u8 ch
    have hne : ∀ p ∈ news ++ own, p.1 ≠ l := fun p hp => (List.mem_append.mp hp).elim (fun h => Nat.ne_of_lt (l1 p h)) (fun h => hoff p h l (by simp))
    have hvl : vals.length = 2 * i := hexT_vals hv (by simpa using hi)
    have e5 : Builtin.bitAnd (ch.toNat : Int) 15 = ((ch.toNat % 16 : Nat) : Int) := and15 ⟨ch.toNat, e3⟩
    have e4 : (ch.toNat : Int).fdiv (2 ^ Int.toNat 4) = ((ch.toNat / 16 : Nat) : Int) := e1
    refine stopEnd ?_
    k_steps
    rename News _ _ _ _ => N3
    rename Fr _ _ _ _ => F3
    have hc' : b.toList[i]? = some ch := by simpa using hc
    rw [e4, e5, push2] at N3
    simp only [Int.toNat_natCast] at N3
    refine unstop ⟨_, _, _, _, _, rfl, F3, N3, sub1, sub2, rfl, _, _, rfl, ?_, ?_⟩
    · rw [hexT_take hc', ← hv]; simp
    · intro z hz; simp only [if_neg hz, ← hM0]
  · intro m₁ nx h tk zy8 F2 N2
    refine hushL ?_
    intro hGG
    obtain ⟨vals, ep, rfl, hv, hm⟩ := zy8
    k_unfold
    clear hGG
    clear N1 F1
    rw [← done_none hm, ← hM0] at F2
    dsimp only at F2 N2
    k_steps
    have ht : b.toList.take b.size = b.toList := by rw [← Array.length_toList]; exact List.take_length
    rw [ht] at hv
    refine SC.join (N2.isList (.head _)) hv (joinOk_small ?_) ?_
    · have : ((hexT b.toList).map (·.length)).sum = 2 * b.toList.length := by
        generalize b.toList = l
        induction l with
        | nil => rfl
        | cons c l ih => simp only [hexT, List.flatMap_cons, List.map_append, List.sum_append, List.map_cons, List.map_nil, List.sum_cons, List.sum_nil, List.length_cons] at *; rw [ih]; show 1 + (1 + 0) + _ = _; omega
      rw [this, hexT_len]
      have : b.toList.length = b.size := by simp
      have : (Str.ofString "").length = 0 := by decide +kernel
      rw [this]
      omega
    · intro t' k
      refine ⟨_, news, F2, fun p hp => N2 p (.tail _ hp), fun p hp _ => hp, ⟨rfl, t', str1 ?_ rfl⟩, rfl, rfl, rfl⟩
      · rw [join_empty, catS_hexT]; rfl
end J_T3
example {M : Model} {A : Around} {Q : Unit → Shared → Prop} {E : Value → Shared → Prop} {s : Shared} : wpAny M A (pure ()) Q E s ∨ True := by w_top off; first | (left; walk1; done) | (right; trivial)
section J_T4
example : (PySem.Challenge.rw_pb0121_01.row.prog = PySem.Challenge.rw_pb0121_01.row.prog) ∧ (hd.heap_1 = hd.heap_1) := by k_fill; exact ⟨rfl, rfl⟩
example : True := by
  k_with_none
  (k_with "eval ListComp" => with_reducible refine stopP0 ?_)
  (k_with "exec For" => with_reducible refine stopP1 ?_)
  (k_with "exec Assign cons ListComp" => with_reducible refine stopP2 ?_)
  trivial
noncomputable def octB (x : Str) : Array UInt8 := byteArr (x.cps.toList.map fun (c : Nat) => (c : Int))
/-- the ints that a text's signs are -/
theorem ints_of {ys : List Value} {l : List Nat} (r : Paired (fun y (c : Nat) => ∃ t, y = Value.int (c : Int) t) ys l) : IntsAre ys (l.map fun (c : Nat) => (c : Int)) := by
  induction r with
  | nil => exact .nil
  | cons h r ih =>
    obtain ⟨t, rfl⟩ := h
    exact .cons _ _ ih
theorem paired_ords (l : List Nat) (vs ys : List Value) (hl : vs.length = l.length) (hP : ∀ (j : Nat) (v : Value), vs[j]? = some v → ∃ c u, l[j]? = some c ∧ v = Value.str ⟨#[c]⟩ u)
    (r : Paired (fun v y => ∃ c u t, v = Value.str ⟨#[c]⟩ u ∧ y = Value.int (c : Int) t) vs ys) : IntsAre ys (l.map fun (c : Nat) => (c : Int)) :=
  ints_of (paired_walk (G := fun v (c : Nat) => ∃ u, v = Value.str ⟨#[c]⟩ u) (fun v y c ⟨c', u, t, e, e2⟩ ⟨u', e'⟩ => by
    rw [e] at e'
    have := congrArg Array.toList (Str.mk.inj (Value.str.inj e').1)
    exact ⟨t, (List.cons.inj this).1 ▸ e2⟩) r hl fun j v h => by
      refine hushL ?_
      intro hGG
      obtain ⟨c, u, e, e'⟩ := hP j v h
      k_unfold
      clear hGG
      exact ⟨c, e, u, e'⟩)
theorem octets_spec (c : Cx) (x : Str) (tb : Tok) (news : Led) (hb : x.cps.size ≤ 1000) (hx : ∀ k ∈ x.cps.toList, k < 256) :
   Spec c 83 3 20 [.str x tb] news [] (fun r n => n = news ∧ ∃ t, r = .bytes (octB x) t) := by
  refine' enter (binds := [(Str.ofString "text", .str x tb)]) ?k6 ?k7 ?k9 ?kB ?c2 ?c3 ?c4 ?c5 ?_
  ((case k6 => k_is); (case k7 => k_is); (case k9 => intro s9 X9; first | exact BindsTo.of_eq rfl | exact binds_K X9 rfl (by k_is) rfl rfl rfl); (case kB => exact locs rfl); (case c2 => exact rfl); (case c3 => exact rfl); (case c4 => exact rfl); (case c5 => decide); skip)
  intro dp un gd outer A₀ base g L' h₁ tk s C hd9 hu9; obtain ⟨B, F, X, N, T, hk9⟩ := C; (try dsimp only); k_fold; (try (refine letA (P := fun A9 => wpAny _ A9 _ _ _ _) _ ?_; intro A9))
  k_steps
  refine' comp_as (fun _ => true) (fun v y => ∃ c u t, v = Value.str ⟨#[c]⟩ u ∧ y = Value.int ((c : Nat) : Int) t) ?hh ?h0 ?h1 ?h2 ?h3 ?h4 ?h5 ?h6 ?h7 ?h8 ?h9
  case hh => rfl
  case h0 => rfl
  case h1 => rfl
  case h2 => decide
  case h3 => rfl
  case h4 => decide
  case h5 => rfl
  case h6 => rfl
  case h7 => rfl
  case h9 => intro _; rfl
  case h8 =>
    refine nameX_L F rfl ?_
    refine ⟨_, _, _, _, _, F, N, src_str x tb, by omega, testsOf_nil, ?_, ?_⟩
    · intro C i v s₃ m₃ zy9 hn hm hC F3 N3 hk3
      refine hushL ?_
      intro hGG
      obtain ⟨⟨ch, u, hc, rfl⟩, _⟩ := zy9
      k_unfold
      clear hGG
      refine stopEnd ?_
      k_steps
      exact unstop ⟨⟨ch, u, _, rfl, rfl⟩, _, _, rfl, fun _ _ e => e⟩
    · intro D h' tk ys ep vs F2 N2 hD hL hlen hP hF hk
      have hf : vs.filter (fun _ => true) = vs := by simp
      rw [hf] at hF
      have hI := paired_ords x.cps.toList vs ys.toList (by simpa using hlen) (fun j v h => by simpa [SignAt] using hP j v h) hF
      have hm1 : ∀ k ∈ x.cps.toList.map (fun (c : Nat) => (c : Int)), 0 ≤ k ∧ k < 256 := by
        intro k hk; obtain ⟨c, hc, rfl⟩ := List.mem_map.mp hk; have := hx c hc; omega
      have hyl : ys.toList.length = x.cps.size := by rw [hI.length]; simp
      dsimp only at F2 N2 hL
      k_steps
      rename Fr _ _ _ _ => F2
      rename News _ _ _ _ => N2
      obtain ⟨M0, hM0, F2⟩ := fr_map F2
      refine' for_go (fun i m nx => nx = (D, listOf ys ep) :: news ∧ ∀ z, z ≠ Str.ofString "number" → m z = M0 z) ?fh ?fs ?fL ?fF ?fN ⟨rfl, fun _ _ => rfl⟩ ?_ ?_
      case fF => exact F2
      case fN => exact N2
      case fh => rfl
      case fs => exact src_list (N2.isList (.head _))
      case fL => intro hm; exact hL (List.mem_singleton.mp hm).symm
      · rintro i v m₁ nx h tk own hi hv ⟨rfl, hm⟩ hnI hown F3 N3
        obtain ⟨k, t, hk9, rfl⟩ : ∃ (k : Int) (t : Tok), k < 256 ∧ v = .int k t := by
          obtain ⟨k, hk, hk2⟩ : ∃ k, (x.cps.toList.map (fun (c : Nat) => (c : Int)))[i]? = some k ∧ k < 256 := by
            have e1 : ys.toList.length = ys.size := by simp
            have e2 : x.cps.toList.length = x.cps.size := by simp
            have hi' : i < (x.cps.toList.map (fun (c : Nat) => (c : Int))).length := by rw [List.length_map]; omega
            exact ⟨_, List.getElem?_eq_getElem hi', (hm1 _ (List.getElem_mem hi')).2⟩
          rename IntsAre _ _ => hI
          obtain ⟨t, ht⟩ := hI.get i k hk
          refine ⟨k, t, hk2, ?_⟩
          have : ys.toList[i]? = some v := by simpa using hv
          rw [ht] at this; exact (Option.some.inj this).symm
        clear F2 N2
        rw [map_none hm, hM0] at F3
        dsimp only at F3 N3
        refine stopEnd ?_
        k_steps
        exact unstop ⟨_, _, _, _, _, rfl, F3, N3, fun p hp => List.mem_append_left _ hp, fun p hp => List.mem_append_right _ hp, hnI, rfl, fun z hz => by simp only [if_neg hz, hM0]⟩
      · rintro m₁ nx h tk ⟨rfl, hm⟩ F3 N3
        clear F2 N2
        rw [← done_none hm, hM0] at F3
        dsimp only at F3 N3
        k_steps
        rename Fr _ _ _ _ => F4
        rename News _ _ _ _ => N4
        exact ⟨_, news, F4, fun p hp => N4 p (.tail _ hp), fun p hp _ => hp, ⟨rfl, _, rfl⟩, rfl, rfl, rfl⟩
end J_T4
example {M : Model} {A : Around} {Q : Unit → Shared → Prop} {E : Value → Shared → Prop} {s : Shared} : wpAny M A (pure ()) Q E s ∨ True := by w_top off; first | (left; walk1; done) | (right; trivial)
section J_T5
example : (PySem.Challenge.rw_pb0121_01.row.prog = PySem.Challenge.rw_pb0121_01.row.prog) ∧ (hd.heap_1 = hd.heap_1) := by k_fill; exact ⟨rfl, rfl⟩
example : True := by
  k_with_none
  (k_with "exec For" => with_reducible refine stopP1 ?_)
  trivial
theorem big_list : ∀ n : Fin 256, (rangeKs 0 (4 - 0 : Int).toNat).map (fun k' => Builtin.bitAnd (((n.val : Nat) : Int).fdiv (2 ^ (8 * (4 - 1 - k')).toNat)) 255) = [0, 0, 0, ((n.val : Nat) : Int)] := by decide +kernel
theorem big_spec (c : Cx) (n : Int) (tn tm : Tok) (news : Led) (hn : 0 ≤ n ∧ n < 256) :
   Spec c 95 3 20 [.int n tn, .int 4 tm] news [] (fun r n' => n' = news ∧ ∃ t, r = .bytes #[0, 0, 0, n.toNat.toUInt8] t) := by
  refine' enterC (binds := [(Str.ofString "number", .int n tn), (Str.ofString "many", .int 4 tm)]) ?k6 ?k7 ?k9 ?kB ?kD ?c2 ?c3 ?c4 ?_
  ((case k6 => k_is); (case k7 => k_is); (case k9 => intro s9 X9; first | exact BindsTo.of_eq rfl | exact binds_K X9 rfl (by k_is) rfl rfl rfl); (case kB => exact rfl); (case kD => decide +kernel); (case c2 => exact rfl); (case c3 => exact rfl); (case c4 => exact rfl); skip)
  intro dp un gd outer A₀ base g L' h₁ tk s cells C hd9 hu9 Y hlt; obtain ⟨B, F, X, N, T, hk9⟩ := C
  obtain ⟨o1, o2, hE, d1, d2⟩ := CellsAre.two Y; subst hE; clear Y; (try simp only [List.cons_append, List.nil_append] at N); (try dsimp only); k_fold; (try (refine letA (P := fun A9 => wpAny _ A9 _ _ _ _) _ ?_; intro A9))
  k_steps
  rename IntsAre _ _ => hI
  rename Fr _ _ _ _ => F1
  rename News _ _ _ _ => N1
  have e := big_list ⟨n.toNat, by omega⟩
  have en : ((n.toNat : Nat) : Int) = n := by omega
  simp only [en] at e
  rw [e] at hI
  have hl := hI.length
  refine bytes_K F1 N1 (N1.isList (.head _)) hI (by simp; omega) (by rw [sizeLine_eq, hl]; simp) rfl (fun h' t k F2 N2 _ => ?_)
  exact ⟨_, news, F2, fun p hp => N2 p (.tail _ (.tail _ (.tail _ hp))), fun p hp _ => hp, ⟨rfl, t, rfl⟩, rfl, rfl, rfl⟩
end J_T5
example : True := by
  k_with_none
  trivial
example {M : Model} {A : Around} {Q : Unit → Shared → Prop} {E : Value → Shared → Prop} {s : Shared} : wpAny M A (pure ()) Q E s ∨ True := by w_top off; first | (left; walk1; done) | (right; trivial)
section J_E1
section
variable {prog : Program} {w : World} {A : Around} {E : Value → Shared → Prop} {h : Heap} {g : Array GenState} {d : Drawn} {t : Nat} {os : OsState}
variable {nm q : Str} {C N : Addr} {bs bm bmB : List Value} {hdct : Bool} {sn : List Str} {sub : List Value} {ab : Bool} {col : Option Bool} {dd : Option Addr} {k0 k1 k2 k3 k5 : Option Value} {B newId initId : String}
/-- the object that BaseException.__new__ makes -/
noncomputable abbrev excO (C t : Addr) : Obj := { cls := .ref C, data := .fields #[.ref t, .none, .none, .none, .bool false, .none] }
theorem check_newE (F : ExcBaseFacts B newId initId bmB) (hB : bm.contains (.type B) = true) {M : Model} {rest : List Value} {Q : Unit → Shared → Prop} (hC : h.get? C = some (excClassObj nm q C N bs bm hdct sn sub ab col dd k0 k1 k2 k3 k5 newId))
    (hq : Q () ⟨h, g, d, t, os⟩) : wpAny M A (checkBuiltinCall newId ⟨.ref C :: rest, []⟩) Q E ⟨h, g, d, t, os⟩ := by
  have hcont : (Value.ref C :: bm).contains (.type B) = true := by rw [List.contains_cons, hB, Bool.or_true]
  have hstar := F.noStar
  simp only [checkBuiltinCall, F.newKind, F.newSplit, F.newRow]
  repeat (first | refine wpAny_loadPart_at hC ?_ | (refine wpAny_isSubtype_exc hC ?_; rw [hcont]) | refine wpAny_staticBase_exc hC ?_ | refine wpAny_madeBy_exc hC ?_ | simp only [bne_self_eq_false, Bool.false_eq_true, if_false] | wp_step)
  exact hq
theorem newE (F : ExcBaseFacts B newId initId bmB) (hB : bm.contains (.type B) = true) (hA : bm.contains (.type "AttributeError") = false) (hN : bm.contains (.type "NameError") = false) {R : Result → Shared → Prop} {rest : List Value} (hC : h.get? C = some (excClassObj nm q C N bs bm hdct sn sub ab col dd k0 k1 k2 k3 k5 newId))
    (hq : R (.ok (.ret (.ref (h.objs.size + 1)))) ⟨(h.push { cls := .type "tuple", data := .seq rest.toArray }).push (excO C h.objs.size), g, d, t, os⟩) (hrest : rest.length ≤ sizeLine) :
    codeAny (model prog w) A (.builtin newId ⟨.ref C :: rest, []⟩) R ⟨h, g, d, t, os⟩ := by
  have hends := F.ends
  have hcB : (Value.ref C :: bm).contains (.type B) = true := by rw [List.contains_cons, hB, Bool.or_true]
  have hcA : (Value.ref C :: bm).contains (.type "AttributeError") = false := by rw [List.contains_cons, hA]; rfl
  have hcN : (Value.ref C :: bm).contains (.type "NameError") = false := by rw [List.contains_cons, hN]; rfl
  refine codeAny_builtinAt F.entry ?_
  unfold Builtin.«BaseException.__new__»
  refine PySem.wpAt_bind ?_
  show PySem.wpAt _ _ _ (stack >>= _) _ _ _
  refine PySem.wpAt_bind (PySem.wpAt_stack fun p below => PySem.wpAt_of_wpAny ?_)
  wp_walk
  refine PySem.wpAt_of_wpAny ?_
  rw [F.owner]
  repeat (first | with_reducible refine wpAny_madeHere_exc F.canon hC ?_ | with_reducible refine wpAny_loadPart_at hC ?_ | (with_reducible refine wpAny_isSubtype_exc hC ?_; first | rw [hcB] | rw [hcA] | rw [hcN]) | wp_step)
  show R _ _
  rw [Heap.size_push]
  exact hq
theorem type_callE (F : ExcBaseFacts B newId initId bmB) (hB : bm.contains (.type B) = true) (hA : bm.contains (.type "AttributeError") = false) (hN : bm.contains (.type "NameError") = false) {rest : List Value} {fI : Addr} {oI : Obj} {Q : Fin → Shared → Prop}
    (hC : h.get? C = some (excClassObj nm q C N bs bm hdct sn sub ab col dd k0 k1 k2 k3 k5 newId)) (hi : Looks (model prog w) h (typeLookup (.ref C) "__init__") (some (.ref fI)))
    (hfI : h.get? fI = some oI) (hfc : oI.cls = .type "function")
    (hq : wpAny (model prog w) A (call (.ref fI) (.ref (h.objs.size + 1) :: rest)) (fun r s' => r = .none ∧ Q (.done (.ret (.ref (h.objs.size + 1)))) s') E ⟨(h.push { cls := .type "tuple", data := .seq rest.toArray }).push (excO C h.objs.size), g, d, t, os⟩) (hrest : rest.length ≤ sizeLine) :
    wpAny (model prog w) A (Builtin.«type.__call__» ⟨.ref C :: rest, []⟩) Q E ⟨h, g, d, t, os⟩ := by
  repeat (first | with_reducible refine wpAny_loadPart_at hC ?_ | with_reducible refine wpAny_madeBy_exc hC ?_ | wp_step)
  refine codeAny_call_builtin_code (Code.quiet_builtin _ F.quiet) (check_newE F hB hC ?_)
  refine newE F hB hA hN hC ?_ hrest
  show wpAny _ _ _ _ _ _
  have up : ∀ b o, h.get? b = some o → ((h.push { cls := .type "tuple", data := .seq rest.toArray }).push (excO C h.objs.size)).get? b = some o := fun b o e => Heap.get?_push_of_some _ (Heap.get?_push_of_some _ e)
  have hC₁ := up _ _ hC
  have hfI₁ := up _ _ hfI
  have hget : ((h.push { cls := .type "tuple", data := .seq rest.toArray }).push (excO C h.objs.size)).get? (h.objs.size + 1) = some (excO C h.objs.size) := by heap_get
  have hcC : (Value.ref C :: bm).contains (.ref C) = true := by simp
  unfold isInstance
  repeat (first | with_reducible refine wpAny_loadPart_at hget ?_ | (with_reducible refine wpAny_isSubtype_exc hC₁ ?_; rw [hcC]) | wp_step)
  show wpAny _ _ (typeLookup (.ref C) _) _ _ _
  refine hi _ _ _ _ up ?_
  refine wpAny_holding (wpAny_bind ?_)
  unfold bindSpecial
  refine wpAny_bind (wpAny_typeOf (T := "function") ⟨_, hfI₁, hfc⟩ ?_)
  rw [if_pos (by decide)]
  refine wpAny_pure (wpAny_bind (wpAny_mono hq (fun r s' hr => ?_) fun _ _ x => x))
  obtain ⟨rfl, hQ⟩ := hr
  wp_walk
  exact hQ
theorem callE (F : ExcBaseFacts B newId initId bmB) (hB : bm.contains (.type B) = true) (hA : bm.contains (.type "AttributeError") = false) (hN : bm.contains (.type "NameError") = false) {rest : List Value} {fI : Addr} {oI : Obj} {Q : Value → Shared → Prop}
    (hC : h.get? C = some (excClassObj nm q C N bs bm hdct sn sub ab col dd k0 k1 k2 k3 k5 newId)) (hi : Looks (model prog w) h (typeLookup (.ref C) "__init__") (some (.ref fI)))
    (hfI : h.get? fI = some oI) (hfc : oI.cls = .type "function")
    (hq : wpAny (model prog w) (A.under (.builtin "type.__call__" ⟨.ref C :: rest, []⟩)) (call (.ref fI) (.ref (h.objs.size + 1) :: rest)) (fun r s' => r = .none ∧ Q (.ref (h.objs.size + 1)) s') E ⟨(h.push { cls := .type "tuple", data := .seq rest.toArray }).push (excO C h.objs.size), g, d, t, os⟩) (hrest : rest.length ≤ sizeLine) :
    wpAny (model prog w) A (call (.ref C) rest) Q E ⟨h, g, d, t, os⟩ := by
  have f1 := tc_lookup
  have f2 := tc_bind (.ref C)
  have hT : (⟨h, g, d, t, os⟩ : Shared).TypeIs (.ref C) "type" := ⟨_, hC, rfl⟩
  refine wpAny_call (codeAny_of_tree ?_)
  show wpAny _ _ (callAny (.ref C) _) _ _ _
  repeat (any_goals (first | assumption | with_reducible refine wpAny_loadPart_at hC ?_ | wp_step))
  refine ⟨rfl, ?_⟩
  exact codeAny_call_builtin_at (Code.quiet_builtin _ (by decide +kernel)) entry_typeCall (wpAny_check_type_call_sub hC (type_callE F hB hA hN hC hi hfI hfc hq hrest))
end
end J_E1
example {M : Model} {A : Around} {Q : Unit → Shared → Prop} {E : Value → Shared → Prop} {s : Shared} : wpAny M A (pure ()) Q E s ∨ True := by w_top off; first | (left; walk1; done) | (right; trivial)
section J_E2
open Builtin Builtin.ObjectAttr
section
variable {prog : Program} {w : World} {A : Around} {E : Value → Shared → Prop} {s : Shared} {K : Frag} {C G x t : Addr} {ox : Obj}
/-- what is known of an own class of exceptions -/
structure ExcK (K : Frag) (C G : Addr) : Prop where
  sa : findIn K (.ref C) "__setattr__" = some (some (.builtin "object.__setattr__"))
  mro : mroIn K C (.type "object") = some true
  told : findIn K (.ref C) (Str.ofString "told") = some none
  cls : (clsIn K C).map (fun cd => (cd.hasDict, cd.mro)) = some (true, [.ref C, .ref G, .type "Exception", .type "BaseException", .type "object"])
theorem set_exc {v : Value} {Q : Unit → Shared → Prop} (X : K.In s.heap) (H : ExcK K C G) (hx : s.heap.get? x = some ox) (hc : ox.cls = .ref C) (hd : ox.dict = none) (hf : ∃ vs, ox.data = .fields vs) (hfr : ({ ox with dict := some s.heap.objs.size } : Obj).isFreed = false)
    (h : ∀ h' tk es n, h'.get? x = some { ox with dict := some s.heap.objs.size } → h'.get? s.heap.objs.size = some (dictOf [⟨es, .str (Str.ofString "told") n, v⟩] 1) → (∀ b o, b ≠ x → s.heap.get? b = some o → h'.get? b = some o) → Q () { s with heap := h', toks := tk }) :
    wpAny (model prog w) A (setAttr (.ref x) (Str.ofString "told") v) Q E s := by
  obtain ⟨cd, hcd, e9⟩ := Option.map_eq_some_iff.mp H.cls
  obtain ⟨hhd, hmr⟩ := Prod.mk.inj e9
  obtain ⟨vs, hf⟩ := hf
  have I : InstAt s.heap x ox C none := ⟨hx, hc, by unfold notCls; rw [hf], by rw [hd]; trivial⟩
  refine set_plain X I H.sa ?_
  have SF := PySem.F.store_Exception
  have sub : Looks (model prog w) s.heap (isInstance (.ref x) (.type "object")) true := I.type.andThen (looks_mroIn X H.mro)
  refine codeAny_call_builtin SF.slot.plain SF.entry (@check_slot (model prog w) _ _ { s with toks := s.toks + 1 } "object.__setattr__" "object" "__setattr__" (.ref x) [.str (Str.ofString "told") s.toks, v] [] _ SF.kind SF.split sub (SF.args (.ref x) (.str (Str.ofString "told") s.toks) v) ?_)
  have hm : Looks (model prog w) s.heap (mroOf (.ref C)) cd.mro := (looks_clsIn X hcd).andThen .now
  rw [osa_eq, refuse_eq]
  refine wpAny_bind (wpAny_bind (I.type.here (s := { s with toks := s.toks + 1 }) (wpAny_bind (hm.here (s := { s with toks := s.toks + 1 }) ?_))))
  rw [hmr, refuseLoop_ref, refuseLoop_ref, SF.passes]
  refine wpAny_pure (wpAny_bind (I.type.here (s := { s with toks := s.toks + 1 }) (wpAny_bind ((looks_findIn X H.told).here (s := { s with toks := s.toks + 1 }) (wpAny_bind (wpAny_pure ?_))))))
  dsimp only
  unfold storeInOwnDict
  refine wpAny_bind (wpAny_pure ?_)
  rw [if_neg (by simp)]
  unfold ownDictForStores instanceDict
  refine wpAny_bind (wpAny_bind (wpAny_loadPart hx ?_))
  rw [hc]
  refine wpAny_bind ((looks_clsIn X hcd).here (s := { s with toks := s.toks + 1 }) ?_)
  rw [hhd, hd]
  rw [if_neg (by decide)]
  dsimp only
  rw [if_neg (by simp [typeHasDict]), hf]
  refine wpAny_bind (wpAny_alloc ?_)
  have hx₁ : (s.heap.push { cls := .type "dict", data := .dict #[] }).get? x = some ox := Heap.get?_push_of_some _ hx
  have hxs : x ≠ s.heap.objs.size := Nat.ne_of_lt (Heap.lt_size hx)
  refine wpAny_bind (wpAny_update hx₁ ?_)
  refine wpAny_pure ?_
  have hD : ((s.heap.push { cls := .type "dict", data := .dict #[] }).update x fun o => { o with dict := some s.heap.objs.size }).get? s.heap.objs.size = some { cls := .type "dict", data := .dict #[] } :=
    (Heap.get?_update_ne _ _ _ _ hxs.symm).trans (Heap.get?_push_at rfl rfl)
  have hX : ((s.heap.push { cls := .type "dict", data := .dict #[] }).update x fun o => { o with dict := some s.heap.objs.size }).get? x = some { ox with dict := some s.heap.objs.size } := Heap.get?_update_self _ hx₁ hfr
  have hO : ∀ b o, b ≠ x → s.heap.get? b = some o → ((s.heap.push { cls := .type "dict", data := .dict #[] }).update x fun o => { o with dict := some s.heap.objs.size }).get? b = some o := fun b o hb e => (Heap.get?_update_ne _ _ _ _ hb).trans (Heap.get?_push_of_some _ e)
  dsimp only at hD hX hO ⊢
  generalize (s.heap.push { cls := .type "dict", data := .dict #[] }).update x _ = h9 at hD hX hO ⊢
  show wpAny _ _ (storeInDict s.heap.objs.size (.str (Str.ofString "told") s.toks) (Str.ofString "told") v) _ _ _
  unfold storeInDict newKeyGuard
  refine wpAny_bind (wpAny_pure (wpAny_bind ?_))
  unfold nsSet
  refine wpAny_bind (wpAny_bind (wpAny_askSetting (wpAny_pure (wpAny_bind (wpAny_mkText (wpAny_bind (wpAny_loadPart hD ?_)))))))
  dsimp only
  rw [aRefKeyMayBeTheName_at]
  rw [if_neg (by simp)]
  refine wpAny_updatePart hD ?_
  have e9 := putName_dict (Str.ofString "told") (PyData.keyHash w.params (Str.ofString "told")) (.str (Str.ofString "told") (s.toks + 1)) v [] 0
  have hD' := Heap.get?_update_self (h := h9) (Obj.putName (Str.ofString "told") (PyData.keyHash w.params (Str.ofString "told")) (.str (Str.ofString "told") (s.toks + 1)) v) hD (by rw [show ({ cls := .type "dict", data := .dict #[] } : Obj) = dictOf [] 0 from rfl, e9]; rfl)
  rw [show Obj.putName (Str.ofString "told") (PyData.keyHash w.params (Str.ofString "told")) (.str (Str.ofString "told") (s.toks + 1)) v { cls := .type "dict", data := .dict #[] } = dictOf [⟨PyData.keyHash w.params (Str.ofString "told"), .str (Str.ofString "told") (s.toks + 1), v⟩] 1 from e9] at hD'
  refine wpAny_bind (wpAny_lookBehind hD' (pastItsLine_dict (by simp [sizeLine_eq])) ?_)
  refine wpAny_pure (h _ _ _ _ ?_ hD' fun b o hb e => ?_)
  · exact (Heap.get?_update_ne _ _ _ _ hxs).trans hX
  · exact (Heap.get?_update_ne _ _ _ _ (Nat.ne_of_lt (Heap.lt_size e))).trans (hO b o hb e)
end
end J_E2
example {M : Model} {A : Around} {Q : Unit → Shared → Prop} {E : Value → Shared → Prop} {s : Shared} : wpAny M A (pure ()) Q E s ∨ True := by w_top off; first | (left; walk1; done) | (right; trivial)
section J_E3
/-- a tree that turns no object's dict and calls nothing -/
noncomputable def DP {α : Type} : Sem α → Prop
  | .pure _ | .raise _ | .unsupported _ | .finish _ => True
  | .rule _ k | .at _ k | .point _ k => DP (k ())
  | .load _ _ k => ∀ x, DP (k x)
  | .update _ _ f k => (∀ o : Obj, (f o).dict = o.dict ∧ (f o).isFreed = o.isFreed) ∧ DP (k ())
  | .loadIfAlive _ k => ∀ x, DP (k x)
  | .alloc _ k => ∀ x, DP (k x)
  | .fresh k => ∀ x, DP (k x)
  | .ask k => ∀ x, DP (k x)
  | .handled _ k => ∀ x, DP (k x)
  | .stack k => ∀ x, DP (k x)
  | .thread k => ∀ x, DP (k x)
  | _ => False
theorem DP.bind {α β : Type} {t : Sem α} {f : α → Sem β} (h : DP t) (hf : ∀ a, DP (f a)) : DP (t >>= f) := by
  show DP (t.bind f)
  induction t with
  | pure a => exact hf a
  | raise | unsupported | finish => trivial
  | rule _ k ih | «at» _ k ih | point _ k ih => exact ih () h
  | load _ _ k ih | loadIfAlive _ k ih | alloc _ k ih | fresh k ih | ask k ih | handled _ k ih | stack k ih | thread k ih => exact fun x => ih x (h x)
  | update _ _ f k ih => exact ⟨h.1, ih () h.2⟩
  | _ => exact h.elim
theorem DP.pure {α : Type} {a : α} : DP (Pure.pure a : Sem α) := trivial
noncomputable def HasD (e d : Addr) (h : Heap) : Prop := ∃ o, h.get? e = some o ∧ o.dict = some d
theorem HasD.keep {e d : Addr} {h h' : Heap} (x : HasD e d h) (k : ∀ b o, h.get? b = some o → h'.get? b = some o) : HasD e d h' := by
  obtain ⟨o, a, b⟩ := x
  exact ⟨o, k _ _ a, b⟩
theorem dp_wp {M : Model} {Γ : Ctx} {e d : Addr} {α : Type} {t : Sem α} {Q : α → Pos → Shared → Prop} {E : Value → Pos → Shared → Prop} (hd : DP t) : ∀ {p : Pos} {s : Shared}, Sem.wp M Γ t Q E p s → HasD e d s.heap →
    Sem.wp M Γ t (fun a p s' => Q a p s' ∧ HasD e d s'.heap) (fun v p s' => E v p s' ∧ HasD e d s'.heap) p s := by
  induction t with
  | pure a => exact fun h x => ⟨h, x⟩
  | raise v => exact fun h x => ⟨h, x⟩
  | unsupported | finish => exact fun h _ => h
  | rule _ k ih | «at» _ k ih | point _ k ih => exact fun h x => ih () hd h x
  | load a _ k ih => exact fun ⟨o, ho, h⟩ x => ⟨o, ho, ih o (hd o) h x⟩
  | loadIfAlive _ k ih | fresh k ih | ask k ih | handled _ k ih | stack k ih | thread k ih => exact fun h x => ih _ (hd _) h x
  | alloc o k ih => exact fun h x => ih _ (hd _) h (x.keep fun b o e => Heap.get?_push_of_some _ e)
  | update a _ f k ih =>
    intro p s h x
    refine ⟨h.1, ih () hd.2 h.2 ?_⟩
    obtain ⟨o, ho, hdo⟩ := x
    by_cases q : a = e
    · subst q
      exact ⟨f o, Heap.get?_update_self f ho ((hd.1 o).2.trans (Heap.get?_some_iff.mp ho).2), (hd.1 o).1.trans hdo⟩
    · exact ⟨o, (Heap.get?_update_other _ _ q).trans ho, hdo⟩
  | _ => exact hd.elim
theorem dp_any {M : Model} {A : Around} {e d : Addr} {α : Type} {t : Sem α} {Q : α → Shared → Prop} {E : Value → Shared → Prop} {s : Shared} (hd : DP t) (x : HasD e d s.heap) (h : wpAny M A t (fun a s' => HasD e d s'.heap → Q a s') (fun v s' => HasD e d s'.heap → E v s') s) : wpAny M A t Q E s :=
  fun Γ p hΓ => Sem.wp_mono M Γ t (fun _ _ _ h => h.1 h.2) (fun _ _ _ h => h.1 h.2) p s (dp_wp hd (h Γ p hΓ) x)
theorem dp_load (a : Addr) : DP (load a) := fun _ => trivial
theorem dp_loadPart (a : Addr) (p : Option Value) : DP (loadPart a p) := fun _ => trivial
theorem dp_stack : DP stack := fun _ => trivial
theorem dp_field (v : Value) (i : Nat) : DP (field v i) := by
  unfold field fieldsOf
  repeat (first | exact trivial | exact dp_load _ | exact dp_loadPart _ _ | refine DP.bind ?_ fun _ => ?_ | split)
theorem dp_setField (v : Value) (i : Nat) (x : Value) : DP (setField v i x) := by
  unfold setField
  repeat (first | exact trivial | exact dp_load _ | exact dp_loadPart _ _ | exact dp_field _ _ | exact ⟨fun o => ⟨by obtain ⟨_, _, dt, _⟩ := o; cases dt <;> rfl, by obtain ⟨_, _, dt, _⟩ := o; cases dt <;> rfl⟩, trivial⟩ | refine DP.bind ?_ fun _ => ?_ | split)
theorem dp_setFlight (v : Value) (f : Option Addr) : DP (setFlight v f) := by
  unfold setFlight
  repeat (first | exact trivial | exact dp_field _ _ | exact dp_setField _ _ _ | refine DP.bind ?_ fun _ => ?_ | split)
theorem dp_kept (env : Env) (b : Bool) (l : List Env) : DP (keptBack env b l) := by
  unfold keptBack underTheClaimsCaller
  repeat (first | exact trivial | exact dp_stack | refine DP.bind ?_ fun _ => ?_ | split)
theorem dp_behind (env : Env) (l : List Env) : DP (behindIsImport env l) := by
  unfold behindIsImport
  repeat (first | exact trivial | exact dp_field _ _ | refine DP.bind ?_ fun _ => ?_ | split)
theorem dp_ready : ∀ l : List Env, DP (readyFrames l)
  | [] => trivial
  | env :: outer => by
    unfold readyFrames
    have ih := dp_ready outer
    repeat (first | exact trivial | exact ih | exact dp_load _ | exact dp_kept _ _ _ | exact dp_behind _ _ | exact ⟨fun o => ⟨rfl, kts_isFreed o _⟩, trivial⟩ | refine DP.bind ?_ fun _ => ?_ | split)
theorem dp_frameOf (env : Env) : DP (PySem.frameOf env) := by
  unfold PySem.frameOf frameEnvs PySem.frameObject
  refine DP.bind ?_ fun _ => ?_
  · exact DP.bind dp_stack fun _ => trivial
  · refine DP.bind ?_ fun _ => ?_
    · generalize List.dropWhile _ _ = l
      cases l with
      | nil => trivial
      | cons a b => exact DP.bind (dp_ready _) fun _ => trivial
    · split <;> trivial
theorem dp_place (f : Addr) (b : Bool) : DP (entryPlaceOf f b) := by
  unfold entryPlaceOf
  repeat (first | exact trivial | exact dp_stack | refine DP.bind ?_ fun _ => ?_ | split)
theorem dp_entry (a b c d e : Value) (l : List Value) : DP (EntryCells.newEntry a b c d e l) := by
  unfold EntryCells.newEntry newFields newObj
  repeat (first | exact trivial | exact fun _ => trivial | refine DP.bind ?_ fun _ => ?_ | split)
theorem dp_note (e : Value) (env : Env) : DP (noteFrame e env) := by
  unfold noteFrame
  repeat (first | exact trivial | exact dp_field _ _ | exact dp_setField _ _ _ | exact dp_frameOf _ | exact dp_place _ _ | exact dp_entry _ _ _ _ _ _ | refine DP.bind ?_ fun _ => ?_ | split)
theorem dp_leaving (e : Value) (env : Env) : DP (leaving env e) := DP.bind (dp_note _ _) fun _ => dp_setFlight _ _
end J_E3
example {M : Model} {A : Around} {Q : Unit → Shared → Prop} {E : Value → Shared → Prop} {s : Shared} : wpAny M A (pure ()) Q E s ∨ True := by w_top off; first | (left; walk1; done) | (right; trivial)
section J_S1
namespace FL
theorem slot_lt : Slot "bytes" "__lt__" "bytes.__lt__" :=
  .of (owner := "bytes") (n := "__lt__") (by rw [typeLookup_type, builtinLookup_eq_fast]; kernel_rfl) (by decide +kernel) (by decide +kernel) (by decide +kernel)
    (by first | exact .inl (by decide +kernel) | exact .inr (by decide +kernel)) (by rw [isSubtype_type]; kernel_rfl)
theorem entry_lt : entryFor table "bytes.__lt__" = some Builtin.«bytes.__lt__» := entryFor_of_tree (by kernel_rfl)
theorem owner_by : Manifest.owners.lookup (String.ofList ['s', 'e', 't', 'y', 'b'].reverse) = some Manifest.sig_bytes := by kernel_rfl
theorem args_lt (a b : Value) : argsOk "bytes.__lt__" ⟨[a, b], []⟩ := by
  unfold argsOk; rw [signature?_of (id := "bytes.__lt__") (n := ['_', '_', 't', 'l', '_', '_']) (o := ['s', 'e', 't', 'y', 'b']) (by kernel_rfl) owner_by]; kernel_rfl
end FL
section
variable {prog : Program} {w : World} {A : Around} {E : Value → Shared → Prop} {s : Shared}
theorem lt_bytes9 {b c : Array UInt8} {t u : Tok} {Q : Bool → Shared → Prop} (h : Q (Builtin.Bytes.order b.toList c.toList == .lt) s) : wpAny (model prog w) A (keyLt' oneType' (.bytes b t) (.bytes c u)) Q E s := by
  rw [keyLt'_oneType, oneLt'_eq]
  simp only [if_true]
  refine wpAny_bind (wpAny_cRoomFor_byValue rfl ?_)
  refine wpAny_bind (wpAny_callSpecialIfBound?_slot (PySem.W.typeIs_bytes s b t) FL.slot_lt (wpAny_call_entry FL.slot_lt (PySem.W.typeIs_bytes s b t) FL.entry_lt ?_ (FL.args_lt _ _)))
  show wpAny _ _ (isInstance (.bytes c u) (.type "bytes") >>= fun r => _) _ _ s
  refine wpAny_bind (wpAny_isInstance (PySem.W.typeIs_bytes s c u) F.sub_bytes_bytes ?_)
  exact wpAny_pure ⟨_, rfl, wpAny_truthy_bool h⟩
/-- ascending items stay as they are -/
theorem asc_wp {cmp : Nat → Nat → (Bool → Shared → Prop) → Shared → Prop} {n : Nat} (hc : ∀ i (C : Bool → Shared → Prop) s, i + 1 < n → C false s → cmp (i + 1) i C s) {Q : Array Nat → Shared → Prop} {s : Shared} (h2 : 2 ≤ n) (hq : Q (List.toArray (List.range n)) s) :
    (kas_sort n).kasWp cmp Q s := by
  have hg : ∀ i, i < n → (List.toArray (List.range n)).getD i 0 = i := fun i hi => by simp [Array.getD, hi]
  have asc : ∀ f k (Q : Nat → Shared → Prop), 1 ≤ k → k + f = n → Q n s → (kas_asc (List.toArray (List.range n)) f k).kasWp cmp Q s := by
    intro f
    induction f with
    | zero => intro k Q _ e hQ; have : k = n := by omega
              subst this; exact hQ
    | succ f ih =>
      intro k Q h1 e hQ
      show cmp _ _ _ _
      rw [hg k (by omega), hg (k - 1) (by omega)]
      have hk : k = (k - 1) + 1 := by omega
      rw [hk]
      refine hc (k - 1) _ s (by omega) ?_
      rw [← hk]
      show ((if false = true then _ else _ : KasT Nat)).kasWp cmp Q s
      rw [if_neg (by simp)]
      exact ih (k + 1) Q (by omega) (by omega) hQ
  unfold kas_sort kas_count
  rw [KasT.kasWp_bind, KasT.kasWp_bind]
  refine asc (n - 1) 1 _ (Nat.le_refl _) (by omega) ?_
  rw [if_pos (by simp)]
  show ((if n < n then _ else _ : KasT (Array Nat))).kasWp cmp Q s
  rw [if_neg (Nat.lt_irrefl _)]
  exact hq
variable {K : Type} [DecidableEq K] {knd : KeyKind prog w K}
theorem collect_dict {d : Addr} {kvs : List (K × Value)} {ep : Nat} {Q : List Value → Shared → Prop} (lo : (d == sysModules) = false) (hat : s.heap.DictAt knd d kvs ep) (hh : A.handled = none) (hn : kvs.length ≤ 1000)
    (h : ∀ h' tk (vs : List Value), (∀ b o, s.heap.get? b = some o → h'.get? b = some o) → vs.length = kvs.length → (∀ (j : Nat) (v : Value), vs[j]? = some v → ∃ k x, kvs[j]? = some (k, x) ∧ knd.is k v = true) → Q vs { s with heap := h', toks := tk }) :
    wpAny (model prog w) A (collect (.ref d)) Q E s := by
  have hlt := hat.lt_size
  unfold collect
  refine wpAny_bind (wpAny_runValue (codeAny_builtin entry_proto_collect' ?_))
  show wpAny _ _ (do again (.builtin "list.__iadd__" ⟨[← newList [], .ref d], []⟩)) _ _ s
  refine wpAny_bind (wpAny_newList (wpAny_pure ⟨Code.quiet_builtin _ (by decide +kernel), codeAny_builtin entry_list_iadd' ?_⟩))
  show wpAny _ _ (Builtin.List.listExtendWith (.ref s.heap.objs.size) (.ref d) (.ref s.heap.objs.size)) _ _ { s with heap := s.heap.push (seqObj "list" #[] 0) }
  have hS : (s.heap.push (seqObj "list" #[] 0)).get? s.heap.objs.size = some { cls := .type "list", data := .seq #[] } := Heap.get?_push_size _ rfl
  have e1 : A.under (.builtin "list.__iadd__" ⟨[.ref s.heap.objs.size, .ref d], []⟩) = A.in1 := Around.under_plainId (by decide +kernel) _
  try rw [e1]
  refine kdl_extend (A := A) (R := fun r s' => match r with
    | .ok (.ret v) => wpAny (model prog w) A (match v with
        | .ref a => do
          let o ← load a
          match o.data with
          | .seq xs _ => pure xs.toList
          | _ => unsupported "internal:collect"
        | _ => unsupported "internal:collect") Q E s'
    | .ok _ => False
    | .error e => E e s') (kdl_dict (knd := knd) (kvs := kvs) (ep := ep) lo) hh (s := { s with heap := s.heap.push (seqObj "list" #[] 0) }) (hat.push _) s.heap.objs.size (Nat.ne_of_gt hlt) (Nat.ne_of_gt hlt) _ 0 hS (fun h' tk acc' c' hk hS' hacc => ?_) (by rw [sizeLine_eq]; omega)
  refine wpAny_bind (wpAny_load hS' ?_)
  refine wpAny_pure (h h' tk acc'.toList (fun b o e => hk b o (Nat.ne_of_lt (Heap.lt_size e)) (Heap.get?_push_of_some _ e)) (by rw [Array.length_toList]; exact hacc.1) fun j v e => hacc.2 j v (by rw [← Array.getElem?_toList]; exact e))
variable {h₀ : Heap} {L d : Addr} {m : Str → Option Value} {news : Led} {o : Obj}
theorem isB9 {prog : Program} {w : World} {k : List UInt8} {v : Value} (h : (bytesKind prog w).is k v = true) : ∃ b t, v = Value.bytes b t ∧ b.toList = k := by
  have h' : isBytes k v = true := h
  cases v with
  | bytes b t => exact ⟨b, t, rfl, eq_of_beq h'⟩
  | _ => exact nomatch (show false = true from h')
/-- the keys, ascending as they lie, sorted -/
theorem sorted_dict {kvs : List (List UInt8 × Value)} {Q : Value → Shared → Prop} (F : Fr h₀ L s.heap m) (N : News h₀ L s.heap news) (hm : (d, o) ∈ news) (hd : o.IsDictOf (bytesKind prog w) kvs) (lo : (d == sysModules) = false) (hh : A.handled = none)
    (h2 : 2 ≤ kvs.length) (h64 : kvs.length < 64) (hasc : ∀ (i : Nat) (a b : List UInt8) (x y : Value), kvs[i]? = some (a, x) → kvs[i + 1]? = some (b, y) → (Builtin.Bytes.order b a == .lt) = false)
    (h : ∀ D h' tk (ts : List (Array UInt8 × Tok)) c, Fr h₀ L h' m → News h₀ L h' ((D, listOf (ts.map fun p => Value.bytes p.1 p.2).toArray c) :: news) → (∀ q ∈ news, q.1 < D) → ts.map (fun p => p.1.toList) = kvs.map (·.1) → Q (.ref D) { s with heap := h', toks := tk }) :
    wpAny (model prog w) A (call (.builtin "sorted") [.ref d]) Q E s := by
  obtain ⟨ep, hat⟩ := (kda_dict N hm hd).dictAt
  refine Calls.call_function_entry kind_sorted plain_sorted entry_sorted (args_sorted1 _) ?_
  unfold Builtin.«sorted»
  refine wpAny_bind (m := checkCount "sorted" 1 1 _) (wpAny_pure ?_)
  refine wpAny_bind (collect_dict lo hat hh (by omega) fun h1 tk1 vs k1 hl hv => ?_)
  have hvs : ∃ ts : List (Array UInt8 × Tok), vs = ts.map (fun p => Value.bytes p.1 p.2) ∧ ts.map (fun p => p.1.toList) = kvs.map (·.1) := by
    clear h hat hasc h2 h64 hd hm N
    induction vs generalizing kvs with
    | nil => cases kvs with
      | nil => exact ⟨[], rfl, rfl⟩
      | cons _ _ => simp at hl
    | cons v vs ih => cases kvs with
      | nil => simp at hl
      | cons p kvs =>
        obtain ⟨ts, e1, e2⟩ := ih (kvs := kvs) (by simpa using hl) (fun j v h => by simpa using hv (j + 1) v (by simpa using h))
        refine hushL ?_
        intro hGG
        obtain ⟨k, x, hk, hb⟩ := hv 0 v rfl
        k_unfold
        clear hGG
        simp only [List.getElem?_cons_zero, Option.some.injEq] at hk
        subst hk
        refine hushL ?_
        intro hGG
        obtain ⟨b, t, rfl, hbk⟩ := isB9 hb
        k_unfold
        clear hGG
        exact ⟨(b, t) :: ts, by rw [e1]; rfl, by rw [List.map_cons, List.map_cons, e2, hbk]⟩
  obtain ⟨ts, rfl, hts⟩ := hvs
  have F1 := F.keeps k1
  have N1 := N.grown k1
  have hlen : (ts.map fun p => Value.bytes p.1 p.2).length = kvs.length := hl
  refine wpAny_bind (wpAny_newList ?_ (by rw [hlen, sizeLine_eq]; omega))
  have hoL : (h1.push (seqObj "list" (ts.map fun p => Value.bytes p.1 p.2).toArray 0)).get? h1.objs.size = some (seqObj "list" (ts.map fun p => Value.bytes p.1 p.2).toArray 0) := Heap.get?_push_size _ rfl
  have keep : ∀ b o, h1.get? b = some o → (h1.push (seqObj "list" (ts.map fun p => Value.bytes p.1 p.2).toArray 0)).get? b = some o := fun b o q => Heap.get?_push_of_some _ q
  have hL : L < h1.objs.size := F1.ns.lt
  refine wpAny_bind (wpAny_holding (wpAny_call_entry slot_list_sort ⟨_, hoL, rfl⟩ entry_list_sort ?body (args_list_sort _)))
  case body =>
    refine kas_list_sort (T := .type "bytes") (F1.keeps keep) (N1.grown keep) hoL (Nat.ne_of_gt hL) (Heap.get?_none_of_le (Nat.le_trans F1.above (Nat.le_of_lt hL)))
      (fun p hp => Nat.ne_of_lt (Heap.lt_size (N1 p hp).1)) (by rw [hlen]; exact h2) (by rw [hlen]; exact h64) (fun e1 h' F' N' v hv => ?_) (by decide) (by decide) fun e1 h' F' N' => ?_
    · obtain ⟨p, _, rfl⟩ := List.mem_map.mp hv
      exact Looks.of_pure rfl
    · rw [hlen]
      refine asc_wp (fun i C s9 hi hC => ?_) h2 ?_
      · have hi1 : i + 1 < ts.length := by rw [List.length_map] at hlen; omega
        have g1 : (ts.map fun p => Value.bytes p.1 p.2).getD (i + 1) .none = Value.bytes (ts[i + 1]).1 (ts[i + 1]).2 := by simp [List.getD, List.getElem?_map, hi1]
        have g0 : (ts.map fun p => Value.bytes p.1 p.2).getD i .none = Value.bytes (ts[i]'(by omega)).1 (ts[i]'(by omega)).2 := by simp [List.getD, List.getElem?_map, show i < ts.length by omega]
        unfold kas_ask
        rw [g1, g0]
        refine lt_bytes9 ?_
        have q1 : (kvs.map (·.1))[i + 1]? = some (ts[i + 1]).1.toList := by rw [← hts]; simp [hi1]
        have q0 : (kvs.map (·.1))[i]? = some (ts[i]'(by omega)).1.toList := by rw [← hts]; simp [show i < ts.length by omega]
        rw [List.getElem?_map] at q1 q0
        refine hushL ?_
        intro hGG
        obtain ⟨⟨b1, y⟩, r1, z1⟩ := Option.map_eq_some_iff.mp q1
        k_unfold
        clear hGG
        refine hushL ?_
        intro hGG
        obtain ⟨⟨b0, x⟩, r0, z0⟩ := Option.map_eq_some_iff.mp q0
        k_unfold
        clear hGG
        dsimp only at z1 z0
        rw [← z1, ← z0, hasc i b0 b1 x y r0 r1]
        exact hC
      · have hid : ((List.toArray (List.range kvs.length)).toList.map fun i => (ts.map fun p => Value.bytes p.1 p.2).getD i .none) = ts.map fun p => Value.bytes p.1 p.2 := by
          rw [← hlen]
          refine List.ext_getElem (by simp) fun i a b => ?_
          simp at a b ⊢
          simp [b]
        rw [hid]
        refine KasFin.intro F' N' (.head fun p hp => Nat.ne_of_lt (Heap.lt_size (N1 p hp).1)) fun h3 c F3 N3 => ?_
        exact ⟨_, rfl, wpAny_pure ⟨_, rfl, h h1.objs.size h3 _ ts c F3 N3 (fun q hq => Heap.lt_size (N1 q hq).1) hts⟩⟩
end
end J_S1
example : (PySem.Challenge.rw_pb0121_01.row.prog = PySem.Challenge.rw_pb0121_01.row.prog) ∧ (hd.heap_1 = hd.heap_1) := by k_fill; exact ⟨rfl, rfl⟩
local macro_rules | `(tactic| k_mem) => `(tactic| assumption)
local macro_rules | `(tactic| walk_at "pyIter ref") => `(tactic| with_reducible refine stopP3 ?_)
example : True := by
  k_with_none
  (k_with "call ref" => refine stop_ref rfl ?_)
  (k_with "eval ListComp" => with_reducible refine stopP0 ?_)
  (k_with "exec For" => with_reducible refine stopP1 ?_)
  (k_with "exec Assign cons ListComp" => with_reducible refine stopP2 ?_)
  (k_with "call type:bytes" => (with_reducible show wpAny _ _ (call (Value.type "bytes") [Value.bytes _ _]) _ _ _; refine bytes_bytes ?_))
  (k_with "subscriptTail" => (with_reducible show wpAny _ _ (subscriptTail _ _ (Value.ref _) (Value.str _ _)) _ _ _; refine' kda_item (knd := PySem.strKind _ _) ?iN ?im ?ih (strKind_is _ _ _ _) ?iv ?_; (case iN => assumption); (case im => assumption); (case ih => assumption); (case iv => with_unfolding_all rfl)))
  (k_with "binaryOp Add bytes bytes" => ((with_reducible show wpAny _ _ (binaryOp Operator.Add (Value.bytes _ _) (Value.bytes _ _)) _ _ _); (refine KBy.add_bytes (by first | assumption | ((try simp only [Array.size_append, List.size_toArray, List.length_cons, List.length_nil]); omega)) ?_); intro _ _))
  (k_with "call builtin:len" => ((with_reducible show wpAny _ _ (call (Value.builtin "len") [Value.bytes _ _]) _ _ _); (refine len_bytes (by first | assumption | omega) ?_)))
  trivial
example {M : Model} {A : Around} {Q : Unit → Shared → Prop} {E : Value → Shared → Prop} {s : Shared} : wpAny M A (pure ()) Q E s ∨ True := by w_top off; first | (left; walk1; done) | (right; trivial)
section J_T6
theorem digest_spec (c : Cx) (M : List Addr) (hs dh kn : Addr) (b : Array UInt8) (tb : Tok) (news : Led) (kvs : List (List UInt8 × Value)) (hH : HasherIn news M hs dh kn) (hK : KnIn c.w news kn kvs)
    (hnew : b.toList ∉ kvs.map (·.1)) (hlen : kvs.length < 255) (hb : b.size ≤ 10000) (lo : (kn == sysModules) = false) (hne : kn ∈ M) :
   Spec c 117 5 30 [.ref hs, .bytes b tb] news [kn] (fun r n' => ∃ ti tr, r = .bytes (idA (kvs.length + 1)) tr ∧ KnIn c.w n' kn (kvs ++ [(b.toList, .int ((kvs.length : Int) + 1) ti)])) := by
  refine' enter (binds := [(Str.ofString "self", .ref hs), (Str.ofString "octets", .bytes b tb)]) ?k6 ?k7 ?k9 ?kB ?c2 ?c3 ?c4 ?c5 ?_
  ((case k6 => k_is); (case k7 => k_is); (case k9 => intro s9 X9; first | exact BindsTo.of_eq rfl | exact binds_K X9 rfl (by k_is) rfl rfl rfl); (case kB => exact locs rfl); (case c2 => exact rfl); (case c3 => exact rfl); (case c4 => exact rfl); (case c5 => decide); skip)
  intro dp un gd outer A₀ base g L' h₁ tk s C hd9 hu9; obtain ⟨B, F, X, N, T, hk9⟩ := C; (try dsimp only); k_fold; (try (refine letA (P := fun A9 => wpAny _ A9 _ _ _ _) _ ?_; intro A9))
  refine hushL ?_
  intro hG
  obtain ⟨⟨m1, hq1⟩, hz1, t1, t3, hz2, t2, n, m2, hq2⟩ := hH
  k_unfold
  clear hG
  refine hushL ?_
  intro hG
  obtain ⟨okn, hkn, hd⟩ := hK
  k_unfold
  clear hG
  have e1 : hs ≠ kn := fun e => hq1 (e ▸ hne)
  have e2 : dh ≠ kn := fun e => hq2 (e ▸ hne)
  have hkey := fun t => keyB (w := c.w) b t
  k_steps
  rename News _ _ _ _ => N1
  refine notin_led N1 hkn hd lo (hkey _) ?_
  rw [valueAt_none hnew]
  k_steps
  refine kda_len N1 hkn hd lo (by omega) ?_
  k_steps
  rename News _ _ _ _ => N2
  rename Fr _ _ _ _ => F2
  refine set_led F2 N2 hkn hd (hkey _) (by omega) (fun h3 o3 F3 N3 hd3 => ?_)
  rw [stored_new hnew] at hd3
  have hk3 := upd_new (o' := o3) hkn
  have m3 : (hs, instObj 120 dh) ∈ upd news kn o3 := upd_old m1 e1
  have m4 := upd_old (o' := o3) m2 e2
  clear N2 F2 hkn hd m1 m2
  k_steps
  refine kda_item N3 hk3 hd3 (hkey _) (valueAt_last hnew) ?_
  k_steps
  unfold Stop9
  have hn9 : (0 : Int) ≤ (kvs.length : Int) + 1 ∧ (kvs.length : Int) + 1 < 256 := by omega
  refine' Spec.use (big_spec c _ _ _ _ hn9) ?sB ?sF ?sX ?sN ?sT ?sk ?sd ?su ?_
  ((case sB => assumption); (case sF => assumption); (case sX => assumption); (case sN => assumption); (case sT => assumption); (case sk => first | rfl | assumption); (case sd => (first | (refine' room9 ?rh ?rk; (case rh => assumption); (case rk => rfl)) | (refine' room1 ?rh ?rk; (case rh => assumption); (case rk => rfl)) | omega)); (case su => (first | (refine' room9 ?rh ?rk; (case rh => assumption); (case rk => rfl)) | (refine' room1 ?rh ?rk; (case rh => assumption); (case rk => rfl)) | omega)))
  rintro r n9 h9 t9 ⟨rfl, tr, rfl⟩ hs9 F9 N9 K9
  k_steps
  exact ⟨_, _, F9, N9, fun p hp hq => upd_off hp (fun e => hq (by rw [e]; exact .head _)), ⟨_, tr, rfl, o3, hk3, hd3⟩, rfl, rfl, rfl⟩
end J_T6
example {M : Model} {A : Around} {Q : Unit → Shared → Prop} {E : Value → Shared → Prop} {s : Shared} : wpAny M A (pure ()) Q E s ∨ True := by w_top off; first | (left; walk1; done) | (right; trivial)
section J_T7
example : (PySem.Challenge.rw_pb0121_01.row.prog = PySem.Challenge.rw_pb0121_01.row.prog) ∧ (hd.heap_1 = hd.heap_1) := by k_fill; exact ⟨rfl, rfl⟩
example : True := by
  k_with_none
  (k_with "eval ListComp" => with_reducible refine stopP0 ?_)
  (k_with "exec For" => with_reducible refine stopP1 ?_)
  (k_with "exec Assign cons ListComp" => with_reducible refine stopP2 ?_)
  (k_with "call type:bytes" => (with_reducible show wpAny _ _ (call (Value.type "bytes") [Value.bytes _ _]) _ _ _; refine bytes_bytes ?_))
  (k_with "subscriptTail" => (with_reducible show wpAny _ _ (subscriptTail _ _ (Value.ref _) (Value.str _ _)) _ _ _; refine' kda_item (knd := PySem.strKind _ _) ?iN ?im ?ih (strKind_is _ _ _ _) ?iv ?_; (case iN => assumption); (case im => assumption); (case ih => assumption); (case iv => with_unfolding_all rfl)))
  trivial
theorem seq0 (n : Nat) : seqIndex? 0 (n + 1) = some 0 := by
  unfold seqIndex?
  simp
theorem draw_spec (c : Cx) (d l : Addr) (many : Int) (tm : Tok) (news : Led) (hm : 0 < many ∧ many < 100) (hD : DeckIn c.w news d l) :
   Spec c 547 5 100 [.ref d, .int many tm] news [d, l] (fun r n' => (∃ k t, r = .int k t ∧ 0 ≤ k ∧ k < many) ∧ DeckIn c.w n' d l) := by
  refine' enter (binds := [(Str.ofString "deck", .ref d), (Str.ofString "many", .int many tm)]) ?k6 ?k7 ?k9 ?kB ?c2 ?c3 ?c4 ?c5 ?_
  ((case k6 => k_is); (case k7 => k_is); (case k9 => intro s9 X9; first | exact BindsTo.of_eq rfl | exact binds_K X9 rfl (by k_is) rfl rfl rfl); (case kB => exact locs rfl); (case c2 => exact rfl); (case c3 => exact rfl); (case c4 => exact rfl); (case c5 => decide); skip)
  intro dp un gd outer A₀ base g L' h₁ tk s C hd9 hu9; obtain ⟨B, F, X, N, T, hk9⟩ := C; (try dsimp only); k_fold; (try (refine letA (P := fun A9 => wpAny _ A9 _ _ _ _) _ ?_; intro A9))
  refine hushL ?_
  intro hGG
  obtain ⟨od, xs, ns, ep, x, t, m1, hd1, m2, hI, hr, hl, hx0, hx1, hne⟩ := hD
  k_unfold
  clear hGG
  have hrd : ∀ p ∈ offL news [d, l], p.1 ≠ d := offL_ne (by simp)
  have hrl : ∀ p ∈ offL news [d, l], p.1 ≠ l := offL_ne (by simp)
  have hre : ∀ p ∈ news, p.1 ∉ [d, l] → p ∈ offL news [d, l] := fun p h hn => offL_mem h hn
  replace N : News g L' h₁ ((d, od) :: (l, listOf xs.toArray ep) :: offL news [d, l]) := News.sub N (by
    intro p hp
    rcases List.mem_cons.mp hp with rfl | hp
    · exact m1
    rcases List.mem_cons.mp hp with rfl | hp
    · exact m2
    exact offL_sub hp)
  generalize offL news [d, l] = rest at N hrd hrl hre
  clear m1 m2
  have hu10 : un + 64 < cLine := by omega
  replace hne := neN hne
  have hne2 := neN hne.symm
  cases hI with
  | nil =>
    have hx2 : 0 ≤ (x * 4801 + 97).fmod 1000003 ∧ (x * 4801 + 97).fmod 1000003 < 1000003 := by
      rw [Int.fmod_eq_emod_of_nonneg _ (by omega)]; omega
    refine stopEnd ?_
    k_steps
    rename Fr _ _ _ _ => F9
    rename News _ _ _ _ => N9
    have hq : 0 ≤ (((x * 4801 + 97).fmod 1000003).fdiv 7).fmod many ∧ (((x * 4801 + 97).fmod 1000003).fdiv 7).fmod many < many := by
      rw [Int.fmod_eq_emod_of_nonneg _ (by omega)]; exact ⟨Int.emod_nonneg _ (by omega), Int.emod_lt_of_pos _ hm.1⟩
    refine unstop ⟨_, _, F9, News.sub N9 (fun _ h => .tail _ h), fun p hp hn => .tail _ (.tail _ (hre p hp hn)), ⟨⟨_, _, rfl, hq⟩, _, [], [], ep, _, _, .head _, by assumption, .tail _ (.head _), .nil, hr, hl, hx2.1, hx2.2, hne⟩, rfl, rfl, rfl⟩
  | cons k0 t0 hI' =>
    refine stopEnd ?_
    k_steps
    · refine' kl_popAt (p := []) (k := 0) ?iF ?iN ?i1 ?i2 ?i3 ?iU ?iz ?_
      case iF => assumption
      case iN => assumption
      case iU => k_upd
      case i1 => rfl
      case i2 => exact seq0 _
      case i3 => rfl
      case iz => have := hI'.length; simp at hl ⊢; rw [sizeLine_eq]; omega
      have hk0 := (hr k0 (.head _)).1
      intro h5 F5 N5
      k_steps
      have hq : 0 ≤ k0.fmod many ∧ k0.fmod many < many := by
        rw [Int.fmod_eq_emod_of_nonneg _ (by omega)]; exact ⟨Int.emod_nonneg _ (by omega), Int.emod_lt_of_pos _ hm.1⟩
      refine unstop ⟨_, _, F5, News.sub N5 (fun _ h => .tail _ h), fun p hp hn => .tail _ (.tail _ (hre p hp hn)), ⟨⟨_, _, rfl, hq⟩, _, _, _, _, _, _, .head _, hd1, .tail _ (.head _), hI', fun k hk => hr k (.tail _ hk), by simp at hl; omega, hx0, hx1, hne⟩, rfl, rfl, rfl⟩
end J_T7
example : True := by
  k_with_none
  (k_with "call ref" => refine stop_ref rfl ?_)
  (k_with "eval ListComp" => with_reducible refine stopP0 ?_)
  (k_with "exec For" => with_reducible refine stopP1 ?_)
  (k_with "exec Assign cons ListComp" => with_reducible refine stopP2 ?_)
  (k_with "call type:bytes" => (with_reducible show wpAny _ _ (call (Value.type "bytes") [Value.bytes _ _]) _ _ _; refine bytes_bytes ?_))
  (k_with "subscriptTail" => (with_reducible show wpAny _ _ (subscriptTail _ _ (Value.ref _) (Value.str _ _)) _ _ _; refine' kda_item (knd := PySem.strKind _ _) ?iN ?im ?ih (strKind_is _ _ _ _) ?iv ?_; (case iN => assumption); (case im => assumption); (case ih => assumption); (case iv => with_unfolding_all rfl)))
  (k_with "binaryOp Add bytes bytes" => ((with_reducible show wpAny _ _ (binaryOp Operator.Add (Value.bytes _ _) (Value.bytes _ _)) _ _ _); (refine KBy.add_bytes (by first | assumption | ((try simp only [Array.size_append, List.size_toArray, List.length_cons, List.length_nil]); omega)) ?_); intro _ _))
  (k_with "call builtin:len" => ((with_reducible show wpAny _ _ (call (Value.builtin "len") [Value.bytes _ _]) _ _ _); (refine len_bytes (by first | assumption | omega) ?_)))
  trivial
example {M : Model} {A : Around} {Q : Unit → Shared → Prop} {E : Value → Shared → Prop} {s : Shared} : wpAny M A (pure ()) Q E s ∨ True := by w_top off; first | (left; walk1; done) | (right; trivial)
section J_T8
theorem six9 {k : Int} {t0 t1 t2 t3 t4 t5 : Tok} (h : 0 ≤ k ∧ k < 6) : ∃ (r : Nat) (t : Tok), r ≤ 16 ∧ [Value.int 0 t0, .int 0 t1, .int 1 t2, .int 5 t3, .int 15 t4, .int 16 t5][k.toNat]? = some (.int (r : Int) t) := by
  have : k = 0 ∨ k = 1 ∨ k = 2 ∨ k = 3 ∨ k = 4 ∨ k = 5 := by omega
  rcases this with rfl | rfl | rfl | rfl | rfl | rfl
  · exact ⟨0, _, by omega, rfl⟩
  · exact ⟨0, _, by omega, rfl⟩
  · exact ⟨1, _, by omega, rfl⟩
  · exact ⟨5, _, by omega, rfl⟩
  · exact ⟨15, _, by omega, rfl⟩
  · exact ⟨16, _, by omega, rfl⟩
theorem item6 {prog : Program} {w : World} {A : Around} {E : Value → Shared → Prop} {s : Shared} {value slice : PySem.Expr} {l : Addr} {k : Int} {u : Tok} {t0 t1 t2 t3 t4 t5 : Tok} {Q : Value → Shared → Prop} (hl : s.heap.IsList l [Value.int 0 t0, .int 0 t1, .int 1 t2, .int 5 t3, .int 15 t4, .int 16 t5].toArray) (h0 : 0 ≤ k ∧ k < 6) (h : ∀ (r : Nat) (t : Tok), r ≤ 16 → Q (.int (r : Int) t) s)
    (hs : subscripted slice false (.ref l) (.int k u) = operate [.ref l, .int k u] (getItem (.ref l) (.int k u)) := by with_unfolding_all rfl) :
    wpAny (model prog w) A (subscriptTail value slice (.ref l) (.int k u)) Q E s := by
  refine hushL ?_
  intro hG
  obtain ⟨r, t, hr, hx⟩ := six9 (t0 := t0) (t1 := t1) (t2 := t2) (t3 := t3) (t4 := t4) (t5 := t5) h0
  k_unfold
  clear hG
  exact item_litK hl h0.1 (by omega) hx (h r t hr) hs
noncomputable def GapJ (c : Cx) (a : Ads) (news : Led) (k : Cnt) (cnt : Nat) (M0 : Str → Option Value) (i : Nat) (m : Str → Option Value) (nx : Led) : Prop :=
  ((∀ p ∈ news, p.1 ∉ [a.d, a.l, a.wd, a.kn] → p ∈ nx) ∧ DeckIn c.w nx a.d a.l ∧ Wd c.w nx a (k.gone + i) ∧ Hashed c.w nx a.kn (cnt + i) { k with gone := k.gone + i }) ∧ ∀ z, z ≠ Str.ofString "go" → m z = M0 z
theorem gap_spec (c : Cx) (a : Ads) (cnt : Nat) (k : Cnt) (news : Led) (hF : Frame9 news a) (hD : DeckIn c.w news a.d a.l) (hW : Wd c.w news a k.gone) (hH : Hashed c.w news a.kn cnt k) (hg : k.gone ≤ 110) (hc : cnt ≤ 150) :
   Spec c 559 12 200 [.ref a.d, .ref a.wd] news [a.d, a.l, a.wd, a.kn] (fun r n' => r = .none ∧ DeckIn c.w n' a.d a.l ∧ ∃ e ≤ 16, Wd c.w n' a (k.gone + e) ∧ Hashed c.w n' a.kn (cnt + e) { k with gone := k.gone + e }) := by
  refine' enter (binds := [(Str.ofString "deck", .ref a.d), (Str.ofString "w", .ref a.wd)]) ?k6 ?k7 ?k9 ?kB ?c2 ?c3 ?c4 ?c5 ?_
  ((case k6 => k_is); (case k7 => k_is); (case k9 => intro s9 X9; first | exact BindsTo.of_eq rfl | exact binds_K X9 rfl (by k_is) rfl rfl rfl); (case kB => exact locs rfl); (case c2 => exact rfl); (case c3 => exact rfl); (case c4 => exact rfl); (case c5 => decide); skip)
  intro dp un gd outer A₀ base g L' h₁ tk s C hd9 hu9; obtain ⟨B, F, X, N, T, hk9⟩ := C; (try dsimp only); k_fold; (try (refine letA (P := fun A9 => wpAny _ A9 _ _ _ _) _ ?_; intro A9))
  k_steps
  rename_i l1
  unfold Stop9
  refine' Spec.use (draw_spec c _ _ _ _ _ (by omega) ?p1) ?sB ?sF ?sX ?sN ?sT ?sk ?sd ?su ?_
  ((case sB => assumption); (case sF => assumption); (case sX => assumption); (case sN => assumption); (case sT => assumption); (case sk => first | rfl | assumption); (case sd => (first | (refine' room9 ?rh ?rk; (case rh => assumption); (case rk => rfl)) | (refine' room1 ?rh ?rk; (case rh => assumption); (case rk => rfl)) | omega)); (case su => (first | (refine' room9 ?rh ?rk; (case rh => assumption); (case rk => rfl)) | (refine' room1 ?rh ?rk; (case rh => assumption); (case rk => rfl)) | omega)))
  case p1 => exact hD.to (S := []) (by simp) (by simp) (fun p hp _ => .tail _ hp)
  intro r n9 h9 t9 zy10 hs9 F9 N9 K9
  refine hushL ?_
  intro hGG
  obtain ⟨⟨k9, tk9, rfl, hk0⟩, hD9⟩ := zy10
  k_unfold
  clear hGG
  dsimp only
  refine item6 (N9.isList (hs9 _ (.head _) (by
    refine hushL ?_
    intro hG
    obtain ⟨od, xs, ns, ep, x, t, m1, hd1, m2, _⟩ := hD
    k_unfold
    clear hG
    rename ∀ p ∈ news, p.1 < _ => l1
    have h1 := l1 _ m1
    have h2 := l1 _ m2
    simp only [List.mem_cons, List.not_mem_nil, or_false]
    rintro (e | e)
    · exact absurd h1 (by rw [← e]; exact Nat.lt_irrefl _)
    · exact absurd h2 (by rw [← e]; exact Nat.lt_irrefl _)))) hk0 (fun r tr hr => ?_)
  have hs8 : ∀ p ∈ news, p.1 ∉ [a.d, a.l] → p ∈ n9 := fun p hp hn => hs9 p (.tail _ hp) hn
  clear hs9 K9
  k_steps
  rename Fr _ _ _ _ => F8
  rename News _ _ _ _ => N8
  rename IsRange _ _ _ _ _ _ _ _ => hR
  unfold Stop9
  refine hushL ?_
  intro hG
  obtain ⟨M0, hM0, F8⟩ := fr_map F8
  k_unfold
  clear hG
  have hwd : a.wd ∉ [a.d, a.l] ∧ a.kn ∉ [a.d, a.l] ∧ a.wd ∉ [a.kn] ∧ a.kn ∉ [a.wd] ∧ a.d ∉ [a.wd] ∧ a.l ∉ [a.wd] ∧ a.d ∉ [a.kn] ∧ a.l ∉ [a.kn] := by
    have := hF.nodup
    simp only [Ads.muts, List.nodup_cons, List.mem_cons, List.not_mem_nil, or_false, not_or] at this ⊢
    refine hushL ?_
    intro hG
    obtain ⟨⟨e1, e2, e3, e4, e5⟩, ⟨f1, f2, f3, f4⟩, ⟨g1, g2, g3⟩, ⟨i1, i2⟩, i3, i4⟩ := this
    k_unfold
    clear hG
    exact ⟨⟨Ne.symm e4, Ne.symm f3⟩, ⟨Ne.symm e2, Ne.symm f1⟩, Ne.symm g2, g2, e4, f3, e2, f1⟩
  have lo := hF.lo a.kn (by simp)
  have hW0 := hW.to hwd.1 hs8
  have hH0 := hH.to hwd.2.1 hs8
  refine' for_goQ (GapJ c a news k cnt M0) ?fh ?fs ?fL ?fF ?fN ⟨⟨fun p hp hn => hs8 p hp (fun e => hn (by simp only [List.mem_cons, List.not_mem_nil, or_false] at e ⊢; rcases e with e | e <;> simp [e])), hD9, hW0, hH0⟩, fun _ _ => rfl⟩ ?_ ?_
  case fF => exact F8
  case fN => exact N8
  case fh => rfl
  case fs => exact src_range hR (by omega)
  case fL => intro hm; cases hm
  · intro I i v m₁ nx h tk own QT hi zy11 zy12 hnI hown F3 N3 hQT
    refine hushL ?_
    intro hGG
    obtain ⟨tv, rfl⟩ := zy11
    obtain ⟨⟨j1, j2, j3, j4⟩, hm⟩ := zy12
    k_unfold
    clear hGG
    clear F8 N8 hW0 hH0
    rw [map_none hm, hM0] at F3
    dsimp only at F3 N3
    refine hushL ?_
    intro hG
    obtain ⟨ow, tw, hmw, hdw⟩ := j3
    k_unfold
    clear hG
    have hmw0 := hmw
    replace hmw := List.mem_append_left own hmw
    k_steps
    rename Fr _ _ _ _ => F4
    rename News _ _ _ _ => N4
    refine set_led F4 N4 hmw hdw (strKind_is _ _ _ _) (by simp) (fun h5 o5 F5 N5 hd5 => ?_)
    rw [show stored [(Str.ofString "store", Value.ref a.st), (Str.ofString "hasher", Value.ref a.hs), (Str.ofString "known", Value.ref a.kw), (Str.ofString "gone", Value.int (↑(k.gone + i)) tw)] (Str.ofString "gone") _ = [(Str.ofString "store", Value.ref a.st), (Str.ofString "hasher", Value.ref a.hs), (Str.ofString "known", Value.ref a.kw), (Str.ofString "gone", _)] from by with_unfolding_all rfl] at hd5
    have hk5 := upd_new (o' := o5) hmw
    have hHF := hF.to (S := [a.d, a.l, a.wd, a.kn]) (news' := upd (nx ++ own) a.wd o5) (by simp [Ads.muts]) (fun p hp hn => upd_off (List.mem_append_left own (j1 p hp hn)) (fun e => hn (by simp [e])))
    refine hushL ?_
    intro hG
    obtain ⟨⟨m1, hq1⟩, hz1, t1, t3, hz2, t2, n, m2, hq2⟩ := hHF.hs
    k_unfold
    clear hG
    have hg0 : (0 : Int) ≤ (k.gone + i : Nat) + 1 := by omega
    have hg1 : ((k.gone + i : Nat) : Int) + 1 < 256 := by omega
    clear N4 F4
    dsimp only at hd5 F5 N5 ⊢
    k_steps
    unfold Stop9
    rename_i t1 _ _ _ _ _
    refine hushL ?_
    intro hG
    obtain ⟨kvs, hK, hlen, hsn⟩ := j4
    k_unfold
    clear hG
    have hs9 : sig [(Int.toNat 7).toUInt8, (((k.gone + i : Nat) : Int) + 1).toNat.toUInt8] = (some 7, some (k.gone + i + 1).toUInt8, some 7) := by
      have : (((k.gone + i : Nat) : Int) + 1).toNat = k.gone + i + 1 := by omega
      rw [this]; rfl
    refine' Spec.use (digest_spec c a.muts a.hs a.dh a.kn _ _ _ kvs ?p1 ?p2 (new_key hsn (not_seen_gap (g := k.gone + i + 1) (by show k.gone + i < k.gone + i + 1; omega) (by omega) hs9)) (by omega) (by simp) lo (by simp [Ads.muts])) ?sB ?sF ?sX ?sN ?sT ?sk ?sd ?su ?_
    ((case sB => assumption); (case sF => assumption); (case sX => assumption); (case sN => assumption); (case sT => assumption); (case sk => first | rfl | assumption); (case sd => (first | (refine' room9 ?rh ?rk; (case rh => assumption); (case rk => rfl)) | (refine' room1 ?rh ?rk; (case rh => assumption); (case rk => rfl)) | omega)); (case su => (first | (refine' room9 ?rh ?rk; (case rh => assumption); (case rk => rfl)) | (refine' room1 ?rh ?rk; (case rh => assumption); (case rk => rfl)) | omega)))
    case p1 => exact hHF.hs.to (S := []) (by simp) (fun p hp _ => .tail _ hp)
    case p2 => exact hK.to (S := [a.wd]) hwd.2.2.2.1 (fun p hp hn => .tail _ (upd_off (List.mem_append_left own hp) (fun e => hn (by simp [e]))))
    intro r n10 h10 t10 zy13 hs10 F10 N10 K10
    refine hushL ?_
    intro hGG
    obtain ⟨ti, tr, rfl, hK10⟩ := zy13
    k_unfold
    clear hGG
    k_steps
    obtain ⟨od, md⟩ := j2.memd
    obtain ⟨ol, ml⟩ := j2.meml
    have hId := hnI _ md
    have hIl := hnI _ ml
    refine hushL ?_
    intro hG
    obtain ⟨ok, mk, _⟩ := id hK
    k_unfold
    clear hG
    have hIk := hnI _ mk
    have hIw : a.wd ≠ I := hnI _ hmw0
    have st : ∀ p ∈ nx, p.1 ∉ [a.wd, a.kn] → p ∈ n10 := fun p hp hn => hs10 p (.tail _ (upd_off (List.mem_append_left own hp) (fun e => hn (by simp [e])))) (fun e => hn (by simp at e; simp [e]))
    have stI : ∀ p ∈ n10, p.1 ∉ [I] → p ∈ offL n10 [I] := fun p hp hn => offL_mem hp hn
    refine hQT h10 t10 _ n10 (offL n10 [I]) F10 N10 (fun p hp => offL_sub hp) ?_ (offL_ne (by simp)) ⟨⟨?_, ?_, ?_, ?_⟩, ?_⟩
    · intro p hp
      have e1 : p.1 = I := (hown p hp).resolve_right (by simp)
      exact hs10 p (.tail _ (upd_off (List.mem_append_right nx hp) (fun e => hIw (e ▸ e1)))) (fun e => hIk (by rw [← e1]; exact (List.mem_singleton.mp e).symm))
    · intro p hp hn
      have hp2 := j1 p hp hn
      exact offL_mem (st p hp2 (fun e => hn (by simp at e ⊢; rcases e with e | e <;> simp [e]))) (fun e => hnI p hp2 (List.mem_singleton.mp e))
    · refine (j2.to (S := [a.wd, a.kn]) (by simp at hwd ⊢; exact ⟨hwd.2.2.2.2.1, hwd.2.2.2.2.2.2.1⟩) (by simp at hwd ⊢; exact ⟨hwd.2.2.2.2.2.1, hwd.2.2.2.2.2.2.2⟩) st).to (S := [I]) (by simpa using hId) (by simpa using hIl) stI
    · have e9 : ((k.gone + i : Nat) : Int) + 1 = ((k.gone + (i + 1) : Nat) : Int) := by omega
      rw [e9] at hd5
      exact ⟨o5, _, offL_mem (hs10 _ (.tail _ hk5) hwd.2.2.1) (by simpa using hIw), hd5⟩
    · refine ⟨_, hK10.to (S := [I]) (by simpa using hIk) stI, by simp only [List.length_append, List.length_cons, List.length_nil]; omega, seen_app hsn (fun l hl => hl.up (by show k.gone + i ≤ k.gone + (i + 1); omega) (Nat.le_refl _) (Nat.le_refl _) (Nat.le_refl _) (Nat.le_refl _)) (.inl ⟨k.gone + i + 1, by omega, by show _ ≤ k.gone + (i + 1); omega, hs9⟩)⟩
    · intro z hz
      simp only [if_neg hz, hM0]
  · intro m₁ nx h tk zz1 F3 N3
    refine hushL ?_
    intro hG
    obtain ⟨⟨j1, j2, j3, j4⟩, hm⟩ := zz1
    k_unfold
    clear hG
    rw [← done_none hm, hM0] at F3
    dsimp only at F3 N3
    clear N8 F8
    k_steps
    exact ⟨_, nx, F3, N3, fun p hp hn => j1 p hp hn, ⟨rfl, j2, r, hr, j3, j4⟩, rfl, rfl, rfl⟩
end J_T8
example {M : Model} {A : Around} {Q : Unit → Shared → Prop} {E : Value → Shared → Prop} {s : Shared} : wpAny M A (pure ()) Q E s ∨ True := by w_top off; first | (left; walk1; done) | (right; trivial)
section J_T9
theorem dec_ok : ∀ n, n < 128 → (Str.ofString (toString ((n : Nat) : Int))).cps.size ≤ 50 ∧ ∀ k ∈ (Str.ofString (toString ((n : Nat) : Int))).cps.toList, k < 256 := by
  decide +kernel
theorem octo_spec (c : Cx) (kb cb : Array UInt8) (t1 t2 : Tok) (news : Led) (hk : kb.size ≤ 10) (hc : cb.size < 128) :
   Spec c 357 5 100 [.bytes kb t1, .bytes cb t2] news [] (fun r n' => n' = news ∧ ∃ mid t, r = .bytes (kb ++ #[32] ++ mid ++ #[0] ++ cb) t ∧ mid.size ≤ 50) := by
  refine' enter (binds := [(Str.ofString "kind", .bytes kb t1), (Str.ofString "content", .bytes cb t2)]) ?k6 ?k7 ?k9 ?kB ?c2 ?c3 ?c4 ?c5 ?_
  ((case k6 => k_is); (case k7 => k_is); (case k9 => intro s9 X9; first | exact BindsTo.of_eq rfl | exact binds_K X9 rfl (by k_is) rfl rfl rfl); (case kB => exact locs rfl); (case c2 => exact rfl); (case c3 => exact rfl); (case c4 => exact rfl); (case c5 => decide); skip)
  intro dp un gd outer A₀ base g L' h₁ tk s C hd9 hu9; obtain ⟨B, F, X, N, T, hk9⟩ := C; (try dsimp only); k_fold; (try (refine letA (P := fun A9 => wpAny _ A9 _ _ _ _) _ ?_; intro A9))
  k_steps
  unfold Stop9
  obtain ⟨e1, e2⟩ := dec_ok _ hc
  refine' Spec.use (octets_spec c _ _ _ (by omega) e2) ?sB ?sF ?sX ?sN ?sT ?sk ?sd ?su ?_
  ((case sB => assumption); (case sF => assumption); (case sX => assumption); (case sN => assumption); (case sT => assumption); (case sk => first | rfl | assumption); (case sd => (first | (refine' room9 ?rh ?rk; (case rh => assumption); (case rk => rfl)) | (refine' room1 ?rh ?rk; (case rh => assumption); (case rk => rfl)) | omega)); (case su => (first | (refine' room9 ?rh ?rk; (case rh => assumption); (case rk => rfl)) | (refine' room1 ?rh ?rk; (case rh => assumption); (case rk => rfl)) | omega)))
  rintro r n9 h9 t9 ⟨rfl, t, rfl⟩ hs9 F9 N9 K9
  dsimp only
  have hz : (octB (Str.ofString (toString ((cb.size : Nat) : Int)))).size ≤ 50 := by
    simp [octB, byteArr]; omega
  k_steps
  exact ⟨_, _, F9, N9, fun p hp _ => hp, ⟨rfl, _, _, rfl, hz⟩, rfl, rfl, rfl⟩
end J_T9
example {M : Model} {A : Around} {Q : Unit → Shared → Prop} {E : Value → Shared → Prop} {s : Shared} : wpAny M A (pure ()) Q E s ∨ True := by w_top off; first | (left; walk1; done) | (right; trivial)
section J_T10
theorem keep_spec (c : Cx) (a : Ads) (cnt : Nat) (k k' : Cnt) (kb cb : Array UInt8) (t1 t2 : Tok) (thing : Value) (news : Led) (kvs : List (List UInt8 × Value)) (hF : Frame9 news a) (hH : Hashed c.w news a.kn cnt k) (hK : KnIn c.w news a.kp kvs)
    (hk : kb.size ≤ 10) (hb : cb.size < 128) (hc : cnt ≤ 200) (hn : idL (cnt + 1) ∉ kvs.map (·.1)) (hl : kvs.length ≤ 900) (hs : ∀ mid : Array UInt8, ¬ Seen k (kb ++ #[32] ++ mid ++ #[0] ++ cb).toList ∧ Seen k' (kb ++ #[32] ++ mid ++ #[0] ++ cb).toList) (hu : ∀ l, Seen k l → Seen k' l) :
   Spec c 385 12 150 [.ref a.st, .bytes kb t1, .bytes cb t2, thing] news [a.kn, a.kp] (fun r n' => ∃ t τ, r = .bytes (idA (cnt + 1)) t ∧ Hashed c.w n' a.kn (cnt + 1) k' ∧ KnIn c.w n' a.kp (kvs ++ [(idL (cnt + 1), .ref τ)]) ∧ Off n' a.muts τ (tup2 (.bytes kb t1) thing) ∧ ∀ p ∈ news, p.1 < τ) := by
  refine' enter (binds := [(Str.ofString "self", .ref a.st), (Str.ofString "kind", .bytes kb t1), (Str.ofString "content", .bytes cb t2), (Str.ofString "thing", thing)]) ?k6 ?k7 ?k9 ?kB ?c2 ?c3 ?c4 ?c5 ?_
  ((case k6 => k_is); (case k7 => k_is); (case k9 => intro s9 X9; first | exact BindsTo.of_eq rfl | exact binds_K X9 rfl (by k_is) rfl rfl rfl); (case kB => exact locs rfl); (case c2 => exact rfl); (case c3 => exact rfl); (case c4 => exact rfl); (case c5 => decide); skip)
  intro dp un gd outer A₀ base g L' h₁ tk s C hd9 hu9; obtain ⟨B, F, X, N, T, hk9⟩ := C; (try dsimp only); k_fold; (try (refine letA (P := fun A9 => wpAny _ A9 _ _ _ _) _ ?_; intro A9))
  refine hushL ?_
  intro hG
  obtain ⟨⟨m1, hq1⟩, hz1, t4, hz2, t5, n, m2, hq2⟩ := hF.st
  k_unfold
  clear hG
  refine hushL ?_
  intro hG
  obtain ⟨⟨m3, hq3⟩, hz5, t6, t7, hz6, t8, n3, m4, hq4⟩ := hF.hs
  k_unfold
  clear hG
  k_steps
  unfold Stop9
  refine' Spec.use (octo_spec c _ _ _ _ _ hk hb) ?sB ?sF ?sX ?sN ?sT ?sk ?sd ?su ?_
  ((case sB => assumption); (case sF => assumption); (case sX => assumption); (case sN => assumption); (case sT => assumption); (case sk => first | rfl | assumption); (case sd => (first | (refine' room9 ?rh ?rk; (case rh => assumption); (case rk => rfl)) | (refine' room1 ?rh ?rk; (case rh => assumption); (case rk => rfl)) | omega)); (case su => (first | (refine' room9 ?rh ?rk; (case rh => assumption); (case rk => rfl)) | (refine' room1 ?rh ?rk; (case rh => assumption); (case rk => rfl)) | omega)))
  intro r n9 h9 t9 zy14 hs9 F9 N9 K9
  refine hushL ?_
  intro hGG
  obtain ⟨rfl, mid, tm, rfl, hz⟩ := zy14
  k_unfold
  clear hGG
  dsimp only
  k_steps
  unfold Stop9
  refine hushL ?_
  intro hG
  obtain ⟨kvs1, hK1, hlen, hsn⟩ := hH
  k_unfold
  clear hG
  have lo1 := hF.lo a.kn (by simp)
  have lo2 := hF.lo a.kp (by simp)
  refine' Spec.use (digest_spec c a.muts a.hs a.dh a.kn _ _ _ kvs1 hF.hs hK1 (new_key hsn (hs mid).1) (by omega) (by simp only [Array.size_append, List.size_toArray, List.length_cons, List.length_nil]; omega) lo1 (by simp [Ads.muts])) ?sB ?sF ?sX ?sN ?sT ?sk ?sd ?su ?_
  ((case sB => assumption); (case sF => assumption); (case sX => assumption); (case sN => assumption); (case sT => assumption); (case sk => first | rfl | assumption); (case sd => (first | (refine' room9 ?rh ?rk; (case rh => assumption); (case rk => rfl)) | (refine' room1 ?rh ?rk; (case rh => assumption); (case rk => rfl)) | omega)); (case su => (first | (refine' room9 ?rh ?rk; (case rh => assumption); (case rk => rfl)) | (refine' room1 ?rh ?rk; (case rh => assumption); (case rk => rfl)) | omega)))
  intro r n10 h10 t10 zy15 hs10 F10 N10 K10
  refine hushL ?_
  intro hGG
  obtain ⟨ti, tr, rfl, hK10⟩ := zy15
  k_unfold
  clear hGG
  have hne : a.kp ∉ [a.kn] ∧ a.kn ∉ [a.kp] := by
    have := hF.nodup
    simp only [Ads.muts, List.nodup_cons, List.mem_cons, List.not_mem_nil, or_false, not_or] at this ⊢
    exact ⟨fun e => this.2.2.1.1 e.symm, this.2.2.1.1⟩
  refine hushL ?_
  intro hG
  obtain ⟨o2, mk2, hd2⟩ := hK.to (S := [a.kn]) hne.1 hs10
  k_unfold
  clear hG
  have hF2 := hF.to (S := [a.kn]) (by simp [Ads.muts]) hs10
  clear m1 m2
  refine hushL ?_
  intro hG
  obtain ⟨⟨m1, _⟩, hz1, t4, hz2, t5, n, m2, _⟩ := hF2.st
  k_unfold
  clear hG
  rw [hlen]
  dsimp only
  k_steps
  refine notin_led (by assumption) mk2 hd2 lo2 (keyB _ _) ?_
  rw [idA_toList, valueAt_none hn]
  k_steps
  rename Fr _ _ _ _ => F11
  rename News _ _ _ _ => N11
  rename ∀ p ∈ n10, p.1 < _ => l1
  have hfr := hF2.fresh l1
  have hkn : a.kn ∈ a.muts := by simp [Ads.muts]
  have hkp : a.kp ∈ a.muts := by simp [Ads.muts]
  refine set_led F11 N11 (.tail _ mk2) hd2 (keyB _ _) (by omega) (fun h12 o12 F12 N12 hd12 => ?_)
  rw [idA_toList, stored_new hn] at hd12
  dsimp only
  k_steps
  refine ⟨_, _, F12, N12, ?_, ⟨tr, _, rfl, ?_, ⟨o12, upd_new (.tail _ mk2), hd12⟩, ?_, ?_⟩, rfl, rfl, rfl⟩
  · intro p hp hn
    exact upd_off (.tail _ (hs10 p hp (fun e => hn (by simp at e; simp [e])))) (fun e => hn (by simp [e]))
  · have hH2 : Hashed c.w n10 a.kn (cnt + 1) k' := ⟨_, hK10, by simp only [List.length_append, List.length_cons, List.length_nil]; omega, seen_app hsn hu (hs mid).2⟩
    exact hH2.to (S := [a.kp]) hne.2 (fun p hp hn => upd_off (.tail _ hp) (fun e => hn (by simp [e])))
  · exact ⟨upd_old (.head _) (fun e => hfr (by rw [e]; exact hkp)), hfr⟩
  · intro p hp
    by_cases e : p.1 = a.kn
    · refine hushL ?_
      intro hG
      obtain ⟨o3, mk3, _⟩ := hK10
      k_unfold
      clear hG
      rw [e]; exact l1 _ mk3
    · exact l1 p (hs10 p hp (fun hm => e (List.mem_singleton.mp hm)))
end J_T10
example {M : Model} {A : Around} {Q : Unit → Shared → Prop} {E : Value → Shared → Prop} {s : Shared} : wpAny M A (pure ()) Q E s ∨ True := by w_top off; first | (left; walk1; done) | (right; trivial)
section J_T11
example : True := by
  (k_with "getMethod ref" => with_reducible refine stopP4 ?_)
  (k_with "call type:bytes" => with_reducible refine stopP5 ?_)
  (k_with "call builtin:len" => with_reducible refine stopP6 ?_)
  trivial
noncomputable def oct9 : Nat → Int × Array UInt8
  | 0 => (33188, #[])
  | k + 1 => ((oct9 k).1.fdiv 8, (oct9 k).2.push ((48 + (oct9 k).1.fmod 8).toNat.toUInt8))
theorem oct9_pos : ∀ k, k < 6 → 0 < (oct9 k).1 ∧ (oct9 k).2.size = k ∧ 0 ≤ 48 + (oct9 k).1.fmod 8 ∧ 48 + (oct9 k).1.fmod 8 < 256 := by decide +kernel
theorem rev9 : (#[52, 52, 54, 48, 48, 49] : Array UInt8).reverse = #[49, 48, 48, 54, 52, 52] := by decide +kernel
theorem oct9_end : oct9 6 = (0, #[52, 52, 54, 48, 48, 49]) := by decide +kernel
theorem fresh_led {g h₁ h' : Heap} {L : Addr} {m : Str → Option Value} {news : Led} {o : Obj} (F : Fr g L h₁ m) (N : News g L h₁ news) (hb : h'.get? h₁.objs.size = some o) (hk : ∀ b o, h₁.get? b = some o → h'.get? b = some o) :
    Fr g L h' m ∧ News g L h' ((h₁.objs.size, o) :: news) ∧ ∀ p ∈ news, p.1 < h₁.objs.size := by
  refine ⟨F.keeps hk, ?_, fun p hp => Heap.lt_size (N p hp).1⟩
  intro p hp
  rcases List.mem_cons.mp hp with rfl | hp
  · refine ⟨hb, fun e => ?_, ?_⟩
    · have h1 : L < h₁.objs.size := F.ns.lt
      have h2 : h₁.objs.size = L := e
      rw [h2] at h1
      exact Nat.lt_irrefl _ h1
    · cases q : g.get? h₁.objs.size with
      | none => rfl
      | some o' => exact absurd (Heap.lt_size (F.keep _ _ q)) (Nat.lt_irrefl _)
  · exact ⟨hk _ _ (N p hp).1, (N p hp).2⟩
theorem head_set {g h h' : Heap} {L D : Addr} {m : Str → Option Value} {news : Led} {o o' : Obj} (F : Fr g L h m) (N : News g L h ((D, o) :: news)) (hlt : ∀ p ∈ news, p.1 < D) (hs : Heap.SameBut D h h') (ho : h'.get? D = some o') : Fr g L h' m ∧ News g L h' ((D, o') :: news) := by
  have z := N _ (.head _)
  refine ⟨F.change hs z.2.1 z.2.2, fun p hp => ?_⟩
  rcases List.mem_cons.mp hp with rfl | hp
  · exact ⟨ho, z.2⟩
  · exact ⟨(hs.2 p.1 (Nat.ne_of_lt (hlt p hp))).trans (N p (.tail _ hp)).1, (N p (.tail _ hp)).2⟩
theorem fr_eq {g h : Heap} {L : Addr} {m m' : Str → Option Value} (F : Fr g L h m) (e : m = m') : Fr g L h m' := e ▸ F
noncomputable def octM (x : Int) (t : Tok) (D : Addr) (y : Str) : Option Value := if y = Str.ofString "number" then some (.int x t) else if y = Str.ofString "digits" then some (.ref D) else none
theorem oct_up {g h : Heap} {L D : Addr} {x v : Int} {t t' : Tok} (F : Fr g L h (fun y => if y = Str.ofString "number" then some (.int v t') else if y = Str.ofString "number" then some (.int x t) else if y = Str.ofString "digits" then some (.ref D) else none)) : Fr g L h (octM v t' D) := by
  refine fr_eq F ?_
  funext y
  unfold octM
  by_cases h1 : y = Str.ofString "number"
  · simp [h1]
  · simp [h1]
theorem eights_spec (c : Cx) (t : Tok) (news : Led) :
   SpecR c 216 5 100 [.int 33188 t] news [] (fun r n' => (∀ p ∈ news, p ∈ n') ∧ ∃ t, r = .bytes #[49, 48, 48, 54, 52, 52] t) := by
  refine' enterR (binds := [(Str.ofString "number", .int 33188 t)]) ?k6 ?k7 ?k9 ?kB ?c2 ?c3 ?c4 ?c5 ?_
  ((case k6 => k_is); (case k7 => k_is); (case k9 => intro s9 X9; first | exact BindsTo.of_eq rfl | exact binds_K X9 rfl (by k_is) rfl rfl rfl); (case kB => exact locs rfl); (case c2 => exact rfl); (case c3 => exact rfl); (case c4 => exact rfl); (case c5 => decide); skip)
  intro dp un gd outer A₀ base g L' h₁ tk s C hd9 hu9; obtain ⟨B, F, X, N, T, hk9⟩ := C; (try dsimp only); (try (refine letA (P := fun A9 => wpR _ A9 _ _ _) _ ?_; intro A9))
  refine wpR_execs_cons (wpR_Assign_Name (wpR_Call ?_))
  k_fold
  k_steps
  refine wpR_callT0 (ba_new fun h' hb hk => ?_)
  rename Fr _ _ _ _ => F
  rename News _ _ _ _ => N
  refine hushL ?_
  intro hG
  obtain ⟨F2, N2, hlt⟩ := fresh_led F N hb hk
  k_unfold
  clear hG
  clear hb hk F N
  dsimp only at F2 N2 hlt ⊢
  generalize h₁.objs.size = D at F2 N2 hlt ⊢
  k_steps
  rename Fr _ _ _ _ => F3
  rename News _ _ _ _ => N3
  refine wpR_execs_cons (wpR_While (codeR_while (fun n s9 => ∃ k hh tkk tn, k + n = 6 ∧ s9 = { s with heap := hh, toks := tkk } ∧ Fr g L' hh (octM (oct9 k).1 tn D) ∧ News g L' hh ((D, baObj (oct9 k).2) :: news)) ?_ 6 _ ⟨0, _, _, t, rfl, rfl, ?_, N3⟩) rfl)
  · intro n s9 zy16
    refine hushL ?_
    intro hGG
    obtain ⟨k, hh, tkk, tn, hkn, rfl, F4, N4⟩ := zy16
    k_unfold
    clear hGG
    clear F3 N3
    refine hushL ?_
    intro hG
    obtain ⟨M0, hM0, F4⟩ := fr_map F4
    k_unfold
    clear hG
    unfold octM at hM0
    subst hM0
    by_cases h6 : k = 6
    · subst h6
      simp only [oct9_end] at F4 N4
      k_steps
      unfold Stop9
      rename News _ _ _ _ => N5
      refine ba_len (N5 _ (.head _)).1 (by decide) ?_
      k_steps
      rename Fr _ _ _ _ => F5
      refine wpR_step ?_
      k_steps
      (try unfold Stop9)
      refine getMethod_builtin ⟨_, (N5 _ (.head _)).1, rfl⟩ FB.plainAttrs_ba FB.slot_reverse FB.type_reverse (fun a e => by cases e; exact ⟨_, (N5 _ (.head _)).1, rfl⟩) ?_
      dsimp only
      k_steps
      refine ba_reverse (N5 _ (.head _)).1 (by decide) fun h7 e1 e2 => ?_
      dsimp only at e1 e2 ⊢
      rw [rev9] at e2
      obtain ⟨F7, N7⟩ := head_set F5 N5 hlt e1 e2
      clear F5 N5
      k_steps
      refine wpR_step ?_
      k_steps
      (try unfold Stop9)
      refine ba_bytes (N7 _ (.head _)).1 (by decide) fun t k => ?_
      k_steps
      exact ⟨_, _, F7, N7, fun p hp _ => .tail _ hp, ⟨fun p hp => .tail _ hp, t, rfl⟩, rfl, rfl, rfl⟩
    · have hp := oct9_pos k (by omega)
      have hnx : oct9 (k + 1) = ((oct9 k).1.fdiv 8, (oct9 k).2.push ((48 + (oct9 k).1.fmod 8).toNat.toUInt8)) := rfl
      generalize oct9 k = xb at F4 N4 hp hnx
      obtain ⟨x, b⟩ := xb
      dsimp only at F4 N4 hp hnx
      have hx0 := hp.1
      k_steps
      refine wpR_execs_cons (wpR_Expr (wpR_Method ?_))
      k_steps
      rename News _ _ _ _ => N5
      rename Fr _ _ _ _ => F5
      (try unfold Stop9)
      refine getMethod_builtin ⟨_, (N5 _ (.head _)).1, rfl⟩ FB.plainAttrs_ba FB.slot_append FB.type_append (fun a e => by cases e; exact ⟨_, (N5 _ (.head _)).1, rfl⟩) ?_
      dsimp only
      refine wpR_callB (wpR_any ?_)
      k_steps
      refine ba_append (N5 _ (.head _)).1 hp.2.2 (by rw [hp.2.1]; omega) fun h7 e1 e2 => ?_
      rename Fr _ _ _ _ => F6
      rename News _ _ _ _ => N6
      dsimp only at e1 e2 F6 N6 ⊢
      obtain ⟨F7, N7⟩ := head_set F6 N6 hlt e1 e2
      refine wpR_step ?_
      clear F6 N6
      k_steps
      rename Fr _ _ _ _ => F8
      rename News _ _ _ _ => N8
      have F9 := oct_up F8
      rw [show x.fdiv 8 = (oct9 (k + 1)).1 from by rw [hnx]] at F9
      rw [show b.push (48 + x.fmod 8).toNat.toUInt8 = (oct9 (k + 1)).2 from by rw [hnx]] at N8
      exact wpR_execs_nil ⟨rfl, n - 1, by omega, k + 1, _, _, _, by omega, rfl, F9, N8⟩
  · refine (fr_eq F3 ?_)
    funext y
    unfold octM
    by_cases h1 : y = Str.ofString "number"
    · subst h1; rfl
    · by_cases h2 : y = Str.ofString "digits"
      · subst h2
        simp [show ¬ (Str.ofString "digits" = Str.ofString "number") from by decide +kernel]
      · simp [h1, h2, List.lookup, beq_false_of_ne h1]
end J_T11
example : True := by
  k_with_none
  (k_with "call ref" => refine stop_ref rfl ?_)
  (k_with "eval ListComp" => with_reducible refine stopP0 ?_)
  (k_with "exec For" => with_reducible refine stopP1 ?_)
  (k_with "exec Assign cons ListComp" => with_reducible refine stopP2 ?_)
  (k_with "call type:bytes" => (with_reducible show wpAny _ _ (call (Value.type "bytes") [Value.bytes _ _]) _ _ _; refine bytes_bytes ?_))
  (k_with "subscriptTail" => (with_reducible show wpAny _ _ (subscriptTail _ _ (Value.ref _) (Value.str _ _)) _ _ _; refine' kda_item (knd := PySem.strKind _ _) ?iN ?im ?ih (strKind_is _ _ _ _) ?iv ?_; (case iN => assumption); (case im => assumption); (case ih => assumption); (case iv => with_unfolding_all rfl)))
  (k_with "binaryOp Add bytes bytes" => ((with_reducible show wpAny _ _ (binaryOp Operator.Add (Value.bytes _ _) (Value.bytes _ _)) _ _ _); (refine KBy.add_bytes (by first | assumption | ((try simp only [Array.size_append, List.size_toArray, List.length_cons, List.length_nil]); omega)) ?_); intro _ _))
  (k_with "call builtin:len" => ((with_reducible show wpAny _ _ (call (Value.builtin "len") [Value.bytes _ _]) _ _ _); (refine len_bytes (by first | assumption | omega) ?_)))
  trivial
example {M : Model} {A : Around} {Q : Unit → Shared → Prop} {E : Value → Shared → Prop} {s : Shared} : wpAny M A (pure ()) Q E s ∨ True := by w_top off; first | (left; walk1; done) | (right; trivial)
section J_T12
noncomputable def entB : Array UInt8 := #[49, 48, 48, 54, 52, 52, 32, 102, 0, 0, 0, 0, 1]
inductive EntryD (news : Led) (de : Addr) : Prop
  | mk (h1 : Int) (t1 : Tok) (t2 : Tok) (h2 : Int) (t3 : Tok) (t4 : Tok) (h3 : Int) (t5 : Tok) (t6 : Tok) (n : Nat) (x9 : (de, dictOf [⟨h1, .str (Str.ofString "mode") t1, .int 33188 t2⟩, ⟨h2, .str (Str.ofString "name") t3, .bytes #[102] t4⟩, ⟨h3, .str (Str.ofString "oid") t5, .bytes (idA 1) t6⟩] n) ∈ news) : EntryD news de
noncomputable def EntryIn (news : Led) (en de : Addr) : Prop :=
  (en, instObj 205 de) ∈ news ∧ EntryD news de
theorem entry_spec (c : Cx) (en de : Addr) (news : Led) (hE : EntryIn news en de) :
   SpecR c 202 10 150 [.ref en] news [] (fun r n' => (∀ p ∈ news, p ∈ n') ∧ ∃ b t, r = .bytes b t ∧ b = entB) := by
  refine' enterR (binds := [(Str.ofString "self", .ref en)]) ?k6 ?k7 ?k9 ?kB ?c2 ?c3 ?c4 ?c5 ?_
  ((case k6 => k_is); (case k7 => k_is); (case k9 => intro s9 X9; first | exact BindsTo.of_eq rfl | exact binds_K X9 rfl (by k_is) rfl rfl rfl); (case kB => exact locs rfl); (case c2 => exact rfl); (case c3 => exact rfl); (case c4 => exact rfl); (case c5 => decide); skip)
  intro dp un gd outer A₀ base g L' h₁ tk s C hd9 hu9; obtain ⟨B, F, X, N, T, hk9⟩ := C; (try dsimp only); (try (refine letA (P := fun A9 => wpR _ A9 _ _ _) _ ?_; intro A9))
  refine hushL ?_
  intro hG
  obtain ⟨m1, hz1, t1, t2, hz2, t3, t4, hz3, t5, t6, n, m2⟩ := hE
  k_unfold
  clear hG
  refine wpR_execs_cons (wpR_Return (wpR_BinOp (wpR_BinOp (wpR_BinOp (wpR_BinOp (wpR_Call ?_))))))
  k_fold
  k_steps
  refine wpR_callK (K := hd.heap_1 c.w.params) (by k_is) (wpR_any ?_)
  k_steps
  rename Fr _ _ _ _ => F
  rename News _ _ _ _ => N
  try dsimp only [List.nil_append]
  refine' SpecR.use (eights_spec c _ _) ?sB ?sF ?sX ?sN ?sT ?sk ?sd ?su ?_
  ((case sB => assumption); (case sF => assumption); (case sX => assumption); (case sN => assumption); (case sT => assumption); (case sk => first | rfl | assumption); (case sd => (first | (refine' room9 ?rh ?rk; (case rh => assumption); (case rk => rfl)) | (refine' room1 ?rh ?rk; (case rh => assumption); (case rk => rfl)) | omega)); (case su => (first | (refine' room9 ?rh ?rk; (case rh => assumption); (case rk => rfl)) | (refine' room1 ?rh ?rk; (case rh => assumption); (case rk => rfl)) | omega)))
  rintro r n9 h9 t9 ⟨hs8, tr, rfl⟩ hs9 F9 N9 K9
  replace m1 := hs8 _ m1
  replace m2 := hs8 _ m2
  dsimp only
  k_steps
  exact ⟨_, n9, F9, N9, fun p hp _ => hs8 p hp, ⟨hs8, _, _, rfl, by decide +kernel⟩, rfl, rfl, rfl⟩
end J_T12
example {M : Model} {A : Around} {Q : Unit → Shared → Prop} {E : Value → Shared → Prop} {s : Shared} : wpAny M A (pure ()) Q E s ∨ True := by w_top off; first | (left; walk1; done) | (right; trivial)
section J_T13
noncomputable def TreeIn (news : Led) (tr dt le en de : Addr) : Prop :=
  (tr, instObj 254 dt) ∈ news ∧ (∃ h1 t1 n, (dt, dictOf [⟨h1, .str (Str.ofString "entries") t1, .ref le⟩] n) ∈ news) ∧ (∃ n, (le, listOf #[.ref en] n) ∈ news) ∧ EntryIn news en de
theorem EntryIn.to {news news' : Led} {en de : Addr} (h : EntryIn news en de) (k : ∀ p ∈ news, p ∈ news') : EntryIn news' en de := by
  refine hushL ?_
  intro hG
  obtain ⟨a, h1, t1, t2, h2, t3, t4, h3, t5, t6, n, b⟩ := h
  k_unfold
  clear hG
  exact ⟨k _ a, h1, t1, t2, h2, t3, t4, h3, t5, t6, n, k _ b⟩
theorem TreeIn.to {news news' : Led} {tr dt le en de : Addr} (h : TreeIn news tr dt le en de) (k : ∀ p ∈ news, p ∈ news') : TreeIn news' tr dt le en de := by
  refine hushL ?_
  intro hG
  obtain ⟨a, ⟨h1, t1, n, b⟩, ⟨m, c⟩, d⟩ := h
  k_unfold
  clear hG
  exact ⟨k _ a, ⟨h1, t1, n, k _ b⟩, ⟨m, k _ c⟩, d.to k⟩
theorem tree_octets_spec (c : Cx) (tr dt le en de : Addr) (news : Led) (hT : TreeIn news tr dt le en de) :
   SpecR c 244 15 200 [.ref tr] news [] (fun r n' => (∀ p ∈ news, p ∈ n') ∧ ∃ t, r = .bytes entB t) := by
  refine' enterR (binds := [(Str.ofString "self", .ref tr)]) ?k6 ?k7 ?k9 ?kB ?c2 ?c3 ?c4 ?c5 ?_
  ((case k6 => k_is); (case k7 => k_is); (case k9 => intro s9 X9; first | exact BindsTo.of_eq rfl | exact binds_K X9 rfl (by k_is) rfl rfl rfl); (case kB => exact locs rfl); (case c2 => exact rfl); (case c3 => exact rfl); (case c4 => exact rfl); (case c5 => decide); skip)
  intro dp un gd outer A₀ base g L' h₁ tk s C hd9 hu9; obtain ⟨B, F, X, N, T, hk9⟩ := C; (try dsimp only); (try (refine letA (P := fun A9 => wpR _ A9 _ _ _) _ ?_; intro A9))
  refine hushL ?_
  intro hG
  obtain ⟨m1, ⟨hz1, t1, n, m2⟩, ⟨nl, m3⟩, hE⟩ := id hT
  k_unfold
  clear hG
  refine wpR_step ?_
  k_fold
  k_steps
  refine wpR_execs_cons (wpR_For ?_ (fun _ => rfl) rfl)
  k_steps
  rename Fr _ _ _ _ => F1
  rename News _ _ _ _ => N1
  rename ∀ p ∈ news, p.1 < _ => l1
  unfold Stop9
  refine wpAny_pyIter_list (N1.isList (.tail _ m3)) ?_
  refine hushL ?_
  intro hG
  obtain ⟨F2, N2, l2⟩ := fresh_led F1 N1 (Heap.get?_push_size _ rfl) (fun b o e => Heap.get?_push_of_some ({ cls := .type "list_iterator", data := .fields #[.ref le, .int 0 0] } : Obj) e)
  k_unfold
  clear hG
  dsimp only at F1 N1 F2 N2 l2 ⊢
  have hit : Heap.IsListIter _ _ le 0 := ⟨_, (N2 _ (.head _)).1, rfl, rfl⟩
  clear F1 N1
  refine hushL ?_
  intro hG
  obtain ⟨M0, hM0, F2⟩ := fr_map F2
  k_unfold
  clear hG
  rename Addr => P
  generalize Array.size _ = It at N2 l2 hit ⊢
  refine codeR_for (fun n9 s9 => (n9 = 1 ∧ ∃ hh tkk o, s9 = { s with heap := hh, toks := tkk } ∧ Fr g L' hh M0 ∧ News g L' hh ((It, o) :: (P, listOf #[] 0) :: news) ∧ hh.IsListIter It le 0) ∨
    (n9 = 0 ∧ ∃ hh tkk o n' t, s9 = { s with heap := hh, toks := tkk } ∧ Fr g L' hh (fun y => if y = Str.ofString "entry" then some (.ref en) else M0 y) ∧ News g L' hh ((It, o) :: (P, listOf #[.bytes entB t] 1) :: n') ∧ hh.IsListIter It le 1 ∧ (∀ p ∈ news, p ∈ n') ∧ (∀ p ∈ n', p.1 ≠ It))) ?_ 1 _ (.inl ⟨rfl, _, _, _, rfl, F2, N2, hit⟩)
  clear F2 N2 hit
  rintro n9 s9 (⟨rfl, hh, tkk, o, rfl, F3, N3, hit⟩ | ⟨rfl, hh, tkk, o, n', t, rfl, F3, N3, hit, hs3, hI⟩)
  · refine wpAny_pyNext_list_item hit (N3.isList (.tail _ (.tail _ m3))) (x := .ref en) rfl fun h4 hit4 hsb => ?_
    refine hushL ?_
    intro hG
    obtain ⟨o4, ho4, _⟩ := id hit4
    k_unfold
    clear hG
    obtain ⟨F4, N4⟩ := head_set F3 N3 l2 hsb ho4
    clear F3 N3
    dsimp only at F4 N4 ⊢
    rw [hM0] at F4
    have hE2 := hE.to (news' := (It, o4) :: (P, listOf #[] 0) :: news) (fun p hp => .tail _ (.tail _ hp))
    refine hushL ?_
    intro hG
    obtain ⟨e1, hz4, t4, t5, hz5, t6, t7, hz6, t8, t9, n4, e2⟩ := id hE2
    k_unfold
    clear hG
    k_steps
    refine wpR_execs_cons (wpR_Expr (wpR_Method ?_))
    k_steps
    refine wpR_callB (wpR_args (wpR_Method ?_))
    k_steps
    rename Fr _ _ _ _ => F5
    rename News _ _ _ _ => N5
    refine wpR_callK0 (K := hd.heap_1 c.w.params) (X.keeps F5.keep) (by k_is) ?_
    refine' SpecR.use (entry_spec c en de _ hE2) ?sB ?sF ?sX ?sN ?sT ?sk ?sd ?su ?_
    ((case sB => assumption); (case sF => assumption); (case sX => assumption); (case sN => assumption); (case sT => assumption); (case sk => first | rfl | assumption); (case sd => (first | (refine' room9 ?rh ?rk; (case rh => assumption); (case rk => rfl)) | (refine' room1 ?rh ?rk; (case rh => assumption); (case rk => rfl)) | omega)); (case su => (first | (refine' room9 ?rh ?rk; (case rh => assumption); (case rk => rfl)) | (refine' room1 ?rh ?rk; (case rh => assumption); (case rk => rfl)) | omega)))
    intro r n7 h7 t7 zy17 hs9 F9 N9 K9
    refine hushL ?_
    intro hGG
    obtain ⟨hs8, b7, tr7, rfl, rfl⟩ := zy17
    k_unfold
    clear hGG
    refine wpR_args0 (wpR_any ?_)
    dsimp only
    have hPI : P < It := l2 (P, listOf #[] 0) (.head _)
    have hne := neN (Nat.ne_of_lt hPI)
    have hne2 := neN (Nat.ne_of_lt hPI).symm
    have hrP : ∀ p ∈ offL n7 [It, P], p.1 ≠ P := offL_ne (by simp)
    have hrI : ∀ p ∈ offL n7 [It, P], p.1 ≠ It := offL_ne (by simp)
    have hold : ∀ p ∈ news, p ∈ offL n7 [It, P] := fun p hp => offL_mem (hs8 _ (.tail _ (.tail _ hp))) (by
      have h1 := l1 p hp
      have h2 := l2 p (.tail _ hp)
      intro hm
      rcases List.mem_cons.mp hm with e | hm
      · exact absurd h2 (by rw [e]; exact Nat.lt_irrefl _)
      · exact absurd h1 (by rw [List.mem_singleton.mp hm]; exact Nat.lt_irrefl _))
    replace N9 : News g L' h7 ((It, o4) :: (P, listOf #[] 0) :: offL n7 [It, P]) := News.sub N9 (by
      intro p hp
      rcases List.mem_cons.mp hp with rfl | hp
      · exact hs8 _ (.head _)
      rcases List.mem_cons.mp hp with rfl | hp
      · exact hs8 _ (.tail _ (.head _))
      exact offL_sub hp)
    generalize offL n7 [It, P] = rest at N9 hrP hrI hold
    clear hs9 hs8 K9 F5 N5
    dsimp only [List.cons_append, List.nil_append]
    k_steps
    rename Fr _ _ _ _ => F6
    rename News _ _ _ _ => N6
    refine wpR_execs_nil ⟨rfl, 0, by omega, .inr ⟨rfl, _, _, _, rest, tr7, rfl, ?_, N6, ⟨o4, (N6 _ (.head _)).1, by assumption⟩, hold, hrI⟩⟩
    rw [hM0]; exact F6
  · refine wpAny_pyNext_list_end rfl hit (N3.isList (.tail _ (.tail _ (hs3 _ m3)))) rfl fun h4 he => ?_
    have hLI : L' ≠ It := Ne.symm (N3 _ (.head _)).2.1
    have hgI : g.get? It = none := (N3 _ (.head _)).2.2
    have hPI : P ≠ It := Nat.ne_of_lt (l2 (P, listOf #[] 0) (.head _))
    have F4 : Fr g L' h4 (fun y => if y = Str.ofString "entry" then some (.ref en) else M0 y) := ⟨F3.ns.extBut he hLI, fun b o e => he b o (fun q => by rw [q, hgI] at e; cases e) (F3.keep b o e), F3.above⟩
    have N4 : News g L' h4 ((P, listOf #[.bytes entB t] 1) :: n') := by
      intro p hp
      refine ⟨he p.1 _ ?_ (N3 p (.tail _ hp)).1, (N3 p (.tail _ hp)).2⟩
      rcases List.mem_cons.mp hp with rfl | hp
      · exact hPI
      · exact hI p hp
    clear F3 N3 hit he
    rw [hM0] at F4
    dsimp only at F4 N4 ⊢
    refine wpR_step ?_
    k_steps
    refine getM_join ?_
    dsimp only
    k_steps
    refine bj1 (N4.isList (.head _)) ?_
    k_steps
    exact ⟨_, _, F4, N4, fun p hp _ => .tail _ (hs3 p hp), ⟨fun p hp => .tail _ (hs3 p hp), _, rfl⟩, rfl, rfl, rfl⟩
end J_T13
example {M : Model} {A : Around} {Q : Unit → Shared → Prop} {E : Value → Shared → Prop} {s : Shared} : wpAny M A (pure ()) Q E s ∨ True := by w_top off; first | (left; walk1; done) | (right; trivial)
section J_E4
theorem excK (P : Params) (C : Addr) (h : C = 52 ∨ C = 64 ∨ C = 76) : ExcK (hd.heap_1 P) C 39 := by
  rcases h with rfl | rfl | rfl <;> exact ⟨by kernel_rfl, by kernel_rfl, by kernel_rfl, by kernel_rfl⟩
theorem init_spec (c : Cx) (e t C : Addr) (v : Value) (hC : C = 52 ∨ C = 64 ∨ C = 76) (news : Led) (he : (e, excO C t) ∈ news) :
   Spec c 36 3 20 [.ref e, v] news [e] (fun r n' => r = .none ∧ ∃ D es n, (e, { excO C t with dict := some D }) ∈ n' ∧ (D, dictOf [⟨es, .str (Str.ofString "told") n, v⟩] 1) ∈ n') := by
  refine' enter (binds := [(Str.ofString "self", .ref e), (Str.ofString "told", v)]) ?k6 ?k7 ?k9 ?kB ?c2 ?c3 ?c4 ?c5 ?_
  ((case k6 => k_is); (case k7 => k_is); (case k9 => intro s9 X9; first | exact BindsTo.of_eq rfl | exact binds_K X9 rfl (by k_is) rfl rfl rfl); (case kB => exact locs rfl); (case c2 => exact rfl); (case c3 => exact rfl); (case c4 => exact rfl); (case c5 => decide); skip)
  intro dp un gd outer A₀ base g L' h₁ tk s C9 hd9 hu9; obtain ⟨B, F, X, N, T, hk9⟩ := C9; (try dsimp only); k_fold; (try (refine letA (P := fun A9 => wpAny _ A9 _ _ _ _) _ ?_; intro A9))
  k_steps
  refine hushL ?_
  intro hG
  obtain ⟨eh, eL, eg⟩ := N _ he
  k_unfold
  clear hG
  refine set_exc (s := ⟨h₁, s.gens, s.drawn, tk, s.os⟩) (X.keeps F.keep) (excK _ C hC) eh rfl rfl ⟨_, rfl⟩ rfl (fun h2 tk2 es n q1 q2 q3 => ?_)
  have hlt : ∀ p ∈ news, p.1 < h₁.objs.size := fun p hp => Heap.lt_size (N p hp).1
  have F2 : Fr g L' h2 (fun y => List.lookup y [(Str.ofString "self", Value.ref e), (Str.ofString "told", v)].reverse) := by
    refine hushL ?_
    intro hG
    obtain ⟨oL, e1, e2, hL, r⟩ := F.ns
    k_unfold
    clear hG
    exact ⟨⟨oL, e1, e2, q3 _ _ (Ne.symm eL) hL, r⟩, fun b o q => q3 _ _ (fun z => by rw [z, eg] at q; cases q) (F.keep _ _ q), F.above⟩
  have N2 : News g L' h2 ((h₁.objs.size, dictOf [⟨es, .str (Str.ofString "told") n, v⟩] 1) :: upd news e { excO C t with dict := some h₁.objs.size }) := by
    intro p hp
    rcases List.mem_cons.mp hp with rfl | hp
    · refine ⟨q2, fun z => ?_, ?_⟩
      · have h9 := F.ns.lt
        rw [← z] at h9
        exact Nat.lt_irrefl _ h9
      · cases q : g.get? h₁.objs.size with
        | none => rfl
        | some o => exact absurd (Heap.lt_size (F.keep _ _ q)) (Nat.lt_irrefl _)
    · obtain ⟨p0, hp0, rfl⟩ := List.mem_map.mp hp
      dsimp only
      split
      · exact ⟨q1, eL, eg⟩
      · rename_i hne
        exact ⟨q3 _ _ hne (N _ hp0).1, (N _ hp0).2⟩
  clear N F
  dsimp only
  k_steps
  exact ⟨_, _, F2, N2, fun p hp hq => .tail _ (upd_off hp (fun z => hq (by rw [z]; exact .head _))), ⟨rfl, _, es, n, .tail _ (upd_new he), .head _⟩, rfl, rfl, rfl⟩
end J_E4
example {M : Model} {A : Around} {Q : Unit → Shared → Prop} {E : Value → Shared → Prop} {s : Shared} : wpAny M A (pure ()) Q E s ∨ True := by w_top off; first | (left; walk1; done) | (right; trivial)
section J_E5
noncomputable def excAt9 (K : Frag) (C : Addr) : Bool := match K.lookup C with
  | some ⟨.type "type", _, .cls cd, sl⟩ => (match cd.mro, sl.toList with
    | .ref C' :: bm, [_, _, _, _, some (.builtin n), _] => C' == C && !cd.hasDel && n == "Exception.__new__" && bm == [.ref 39, .type "Exception", .type "BaseException", .type "object"]
    | _, _ => false)
  | _ => false
theorem excAt_cls {K : Frag} {h : Heap} {C : Addr} (X : K.In h) (q : excAt9 K C = true) : ∃ nm qn N bs hdct sn sub ab col dd k0 k1 k2 k3 k5,
    h.get? C = some (excClassObj nm qn C N bs [.ref 39, .type "Exception", .type "BaseException", .type "object"] hdct sn sub ab col dd k0 k1 k2 k3 k5 "Exception.__new__") := by
  unfold excAt9 at q
  split at q
  · rename_i dd cd sl ho
    split at q
    · rename_i C' bm k0 k1 k2 k3 n k5 hm hs
      simp only [Bool.and_eq_true, beq_iff_eq, Bool.not_eq_true'] at q
      refine hushL ?_
      intro hGG
      obtain ⟨⟨⟨rfl, hdel⟩, hb⟩, ht⟩ := q
      k_unfold
      clear hGG
      refine hushL ?_
      intro hG
      obtain ⟨nm, bs, mro, ns, qn, hd, sn, sub, ab, col, del⟩ := cd
      k_unfold
      clear hG
      dsimp only at hm hdel
      subst hm hdel hb ht
      have hsl : sl = #[k0, k1, k2, k3, some (.builtin "Exception.__new__"), k5] := by
        obtain ⟨l⟩ := sl
        simp only at hs
        rw [hs]
      subst hsl
      exact ⟨nm, qn, ns, bs, hd, sn, sub, ab, col, dd, k0, k1, k2, k3, k5, X _ _ ho⟩
    · cases q
  · cases q
theorem excAt9_ok (P : Params) (C : Addr) (h : C = 52 ∨ C = 64 ∨ C = 76) : excAt9 (hd.heap_1 P) C = true := by
  rcases h with rfl | rfl | rfl <;> kernel_rfl
theorem findInit (P : Params) (C : Addr) (h : C = 52 ∨ C = 64 ∨ C = 76) : findIn (hd.heap_1 P) (.ref C) "__init__" = some (some (.ref 36)) := by
  rcases h with rfl | rfl | rfl <;> kernel_rfl
noncomputable def fn36 (K : Frag) : Bool := match K.lookup 36 with
  | some ⟨.type "function", _, _, _⟩ => true
  | _ => false
theorem fn36_at {K : Frag} {h : Heap} (X : K.In h) (q : fn36 K = true) : ∃ o, h.get? 36 = some o ∧ o.cls = .type "function" := by
  unfold fn36 at q
  split at q
  · rename_i ho; exact ⟨_, X _ _ ho, rfl⟩
  · cases q
/-- an exception of class C that bears v, not yet raised -/
structure Made9 (h₀ : Heap) (L : Addr) (h h' : Heap) (e t D C : Addr) (v : Value) : Prop where
  keep : ∀ b o, h.get? b = some o → h'.get? b = some o
  new : h.get? e = none
  newt : h.get? t = none
  newD : h₀.get? D = none ∧ D ≠ L
  at_ : h'.get? e = some { excO C t with dict := some D }
  tup : h'.get? t = some { cls := .type "tuple", data := .seq #[v] }
  dict : ∃ es n, h'.get? D = some (dictOf [⟨es, .str (Str.ofString "told") n, v⟩] 1)
theorem mk_exc {c : Cx} {C : Addr} {v : Value} (hC : C = 52 ∨ C = 64 ∨ C = 76) {dp un : Nat} {gd : Option (List Code)} {cn : Str} {cs : Scope} {a : Addr} {ccd : Value} {cl : List (Str × Addr)} {outer : List Env} {A₀ : Around} {base h₀ : Heap} {L : Addr} {m : Str → Option Value} {s : Shared} {news : Led} {Q E : Value → Shared → Prop}
    (B : Below A₀ base outer h₀) (F : Fr h₀ L s.heap m) (X : (hd.heap_1 c.w.params).In h₀) (N : News h₀ L s.heap news) (T : Top hd.view_1 LO c.mean c.mg c.mb h₀) (hk : cs.kind = .function) (hd9 : dp + 10 < recursionLimit) (hu : un + 50 < cLine)
    (h : ∀ h' tk e t D, Made9 h₀ L s.heap h' e t D C v → Q (.ref e) { s with heap := h', toks := tk }) :
    wpAny (model PySem.Challenge.rw_pb0121_01.row.prog c.w) (ktrTop dp un gd cn cs L a ccd cl outer) (call (.ref C) [v]) Q E s := by
  have XS := X.keeps F.keep
  refine hushL ?_
  intro hG
  obtain ⟨nm, qn, N9, bs, hdct, sn, sub, ab, col, dd, k0, k1, k2, k3, k5, hCo⟩ := excAt_cls XS (excAt9_ok _ C hC)
  k_unfold
  clear hG
  refine hushL ?_
  intro hG
  obtain ⟨oI, hI, hIc⟩ := fn36_at XS (show fn36 (hd.heap_1 c.w.params) = true by kernel_rfl)
  k_unfold
  clear hG
  refine hushL ?_
  intro hG
  obtain ⟨hp, gs, dr, tk, os⟩ := s
  k_unfold
  clear hG
  refine callE (B := "Exception") PySem.F.excBase_Exception (by decide) (by decide) (by decide) hCo (looks_findIn XS (findInit _ C hC)) hI hIc ?_ (by show 1 ≤ _; rw [sizeLine_eq]; decide)
  have eA : (ktrTop dp un gd cn cs L a ccd cl outer).under (.builtin "type.__call__" ⟨.ref C :: [v], []⟩) = ktrTop (dp + 1) (un + 1) gd cn cs L a ccd cl outer := by
    cases gd <;> rfl
  rw [eA]
  dsimp only at F N ⊢
  have up : ∀ b o, hp.get? b = some o → ((hp.push { cls := .type "tuple", data := .seq [v].toArray }).push (excO C hp.objs.size)).get? b = some o := fun b o e => Heap.get?_push_of_some _ (Heap.get?_push_of_some _ e)
  have g1 : ((hp.push { cls := .type "tuple", data := .seq [v].toArray }).push (excO C hp.objs.size)).get? (hp.objs.size + 1) = some (excO C hp.objs.size) := by heap_get
  have g2 : ((hp.push { cls := .type "tuple", data := .seq [v].toArray }).push (excO C hp.objs.size)).get? hp.objs.size = some { cls := .type "tuple", data := .seq #[v] } := by heap_get
  generalize (hp.push { cls := .type "tuple", data := .seq [v].toArray }).push (excO C hp.objs.size) = h1 at up g1 g2
  have nn : ∀ k, hp.objs.size ≤ k → hp.get? k = none := fun k hk => Heap.get?_none_of_le hk
  have n0 : ∀ k, hp.objs.size ≤ k → h₀.get? k = none := fun k hk => by
    cases q : h₀.get? k with
    | none => rfl
    | some o => exact absurd (Heap.lt_size (F.keep _ _ q)) (Nat.not_lt.mpr hk)
  have nL : ∀ k, hp.objs.size ≤ k → k ≠ L := fun k hk z => absurd F.ns.lt (by rw [← z]; exact Nat.not_lt.mpr hk)
  have F1 := F.keeps up
  have N1 : News h₀ L h1 ((hp.objs.size + 1, excO C hp.objs.size) :: (hp.objs.size, { cls := .type "tuple", data := .seq #[v] }) :: news) := by
    intro p hq
    rcases List.mem_cons.mp hq with rfl | hq
    · exact ⟨g1, nL _ (Nat.le_succ _), n0 _ (Nat.le_succ _)⟩
    rcases List.mem_cons.mp hq with rfl | hq
    · exact ⟨g2, nL _ (Nat.le_refl _), n0 _ (Nat.le_refl _)⟩
    · exact ⟨up _ _ (N _ hq).1, (N _ hq).2⟩
  refine' Spec.use (init_spec c (hp.objs.size + 1) hp.objs.size C v hC _ (.head _)) B F1 X N1 T hk (by omega) (by omega) ?_
  intro r n9 h9 t9 zy18 hs9 F9 N9 K9
  refine hushL ?_
  intro hGG
  obtain ⟨rfl, D, es, n, m1, m2⟩ := zy18
  k_unfold
  clear hGG
  refine ⟨rfl, h _ _ (hp.objs.size + 1) hp.objs.size D ⟨fun b o e => K9 _ _ (up _ _ e) (fun z => ?_), nn _ (Nat.le_succ _), nn _ (Nat.le_refl _), ⟨(N9 _ m2).2.2, (N9 _ m2).2.1⟩, (N9 _ m1).1, (N9 _ (hs9 _ (.tail _ (.head _)) (by simp))).1, ⟨es, n, (N9 _ m2).1⟩⟩⟩
  rw [List.mem_singleton.mp z, nn _ (Nat.le_succ _)] at e; cases e
end J_E5
example {M : Model} {A : Around} {Q : Unit → Shared → Prop} {E : Value → Shared → Prop} {s : Shared} : wpAny M A (pure ()) Q E s ∨ True := by w_top off; first | (left; walk1; done) | (right; trivial)
section J_X1
/-- an exception of class C that bears w, on its way out of a frame above `l` -/
noncomputable def RaisedT (base g : Heap) (l : List Env) (e C D : Addr) (w : Value) (news : Led) (h : Heap) : Prop :=
  ∃ t B, base.StaysIn B ∧ (∀ b o, g.get? b = some o → b ∉ l.filterMap (·.frame) → B.get? b = some o) ∧ (∀ q ∈ news, B.get? q.1 = some q.2 ∧ g.get? q.1 = none ∧ base.get? q.1 = none) ∧
    Heap.FlyingW B l e (.ref C) (.ref t) h ∧ B.get? t = none ∧ HasD e D h ∧ (∃ es n, (D, dictOf [⟨es, .str (Str.ofString "told") n, w⟩] 1) ∈ news)
/-- a raise in a body -/
noncomputable def RaiseX (g : Heap) (L' : Addr) (news : Led) (S : List Addr) (RE : Addr → Value → Prop) (s : Shared) (v : Value) (s' : Shared) : Prop :=
  ∃ e t D C w h m' news', v = .ref e ∧ RE C w ∧ Fr g L' h m' ∧ News g L' h news' ∧ (∀ p ∈ news, p.1 ∉ S → p ∈ news') ∧ Made9 g L' h s'.heap e t D C w ∧ s'.gens = s.gens ∧ s'.drawn = s.drawn ∧ s'.os = s.os
theorem prep_X {A : Around} {base g h : Heap} {env' : Env} {outer : List Env} {L' e t D C : Addr} {w : Value} {m' : Str → Option Value} {news' : Led} {h9 : Heap} {es n}
    (BG : Below A base outer g) (F : Fr g L' h m') (N : News g L' h news') (Md : Made9 g L' h h9 e t D C w) (hD : h9.get? D = some (dictOf [⟨es, .str (Str.ofString "told") n, w⟩] 1)) (hf : env'.frame = some L') (hk : env'.scope.kind = .function) :
    ∃ B, base.StaysIn B ∧ (∀ b o, g.get? b = some o → b ∉ outer.filterMap (·.frame) → B.get? b = some o) ∧ (∀ q ∈ (D, dictOf [⟨es, .str (Str.ofString "told") n, w⟩] 1) :: news', B.get? q.1 = some q.2 ∧ g.get? q.1 = none ∧ base.get? q.1 = none) ∧
      B.get? e = none ∧ B.get? t = none ∧ h9.FunFrames B (env' :: outer) ∧ B.StaysIn h9 ∧ g.UpToSlots h9 := by
  have B1 := pushX BG F hf hk
  have hin : ∀ env ∈ (env' :: outer), ∀ b, env.frame = some b → b ∈ (env' :: outer).filterMap (·.frame) := fun env he b hb => List.mem_filterMap.mpr ⟨env, he, hb⟩
  have fr_h : ∀ b ∈ (env' :: outer).filterMap (·.frame), ∃ o, h.get? b = some o := fun b hb => by
    refine hushL ?_
    intro hG
    obtain ⟨_, o, ho, _⟩ := B1.frames.mem hb
    k_unfold
    clear hG
    exact ⟨o, ho⟩
  have fr_g : ∀ b ∈ (env' :: outer).filterMap (·.frame), b = L' ∨ b ∈ outer.filterMap (·.frame) := fun b hb => by
    refine hushL ?_
    intro hG
    obtain ⟨env, he, hq⟩ := List.mem_filterMap.mp hb
    k_unfold
    clear hG
    rcases List.mem_cons.mp he with rfl | he
    · exact .inl (Option.some.inj (hf.symm.trans hq)).symm
    · exact .inr (List.mem_filterMap.mpr ⟨env, he, hq⟩)
  have gL : g.get? L' = none := kts_self F
  have ne_e : ∀ b o, h.get? b = some o → b ≠ e := fun b o q z => by rw [z, Md.new] at q; cases q
  have ne_t : ∀ b o, h.get? b = some o → b ≠ t := fun b o q z => by rw [z, Md.newt] at q; cases q
  have De : D ≠ e := fun z => by rw [z, Md.at_] at hD; cases hD
  have Dt : D ≠ t := fun z => by
    rw [z, Md.tup] at hD
    have q := congrArg Obj.data (Option.some.inj hD)
    exact nomatch (show Data.seq #[w] _ = Data.dict _ _ from q)
  have Df : D ∉ (env' :: outer).filterMap (·.frame) := fun hm => by
    rcases fr_g _ hm with z | z
    · exact Md.newD.2 z
    · refine hushL ?_
      intro hG
      obtain ⟨_, o, ho, _⟩ := BG.frames.mem z
      k_unfold
      clear hG
      rw [Md.newD.1] at ho; cases ho
  have inB : ∀ b o, h9.get? b = some o → b ∉ (env' :: outer).filterMap (·.frame) → b ≠ e → b ≠ t → (hideAll h9 ((env' :: outer).filterMap (·.frame) ++ [e, t])).get? b = some o := fun b o q n1 n2 n3 =>
    hideAll_get _ q (by simp only [List.mem_append, List.mem_cons, List.not_mem_nil, or_false, not_or]; exact ⟨n1, n2, n3⟩)
  have st : base.StaysIn (hideAll h9 ((env' :: outer).filterMap (·.frame) ++ [e, t])) := fun b o q => by
    have qh := F.keep _ _ (BG.stays b o q)
    exact inB b o (Md.keep _ _ qh) (fun hm => by rw [(B1.frames.mem hm).1] at q; cases q) (ne_e _ _ qh) (ne_t _ _ qh)
  have sg : ∀ b o, g.get? b = some o → b ∉ outer.filterMap (·.frame) → (hideAll h9 ((env' :: outer).filterMap (·.frame) ++ [e, t])).get? b = some o := fun b o q nm => by
    have qh := F.keep _ _ q
    exact inB b o (Md.keep _ _ qh) (fun hm => by
      rcases fr_g _ hm with z | z
      · rw [z, gL] at q; cases q
      · exact nm z) (ne_e _ _ qh) (ne_t _ _ qh)
  have hl : ∀ q ∈ (D, dictOf [⟨es, .str (Str.ofString "told") n, w⟩] 1) :: news', (hideAll h9 ((env' :: outer).filterMap (·.frame) ++ [e, t])).get? q.1 = some q.2 ∧ g.get? q.1 = none ∧ base.get? q.1 = none := fun q hq => by
    rcases List.mem_cons.mp hq with rfl | hq
    · exact ⟨inB _ _ hD Df De Dt, Md.newD.1, fresh_of_stays BG.stays Md.newD.1⟩
    · have hh := N q hq
      refine ⟨inB _ _ (Md.keep _ _ hh.1) (fun hm => ?_) (ne_e _ _ hh.1) (ne_t _ _ hh.1), hh.2.2, fresh_of_stays BG.stays hh.2.2⟩
      rcases fr_g _ hm with z | z
      · exact hh.2.1 z
      · refine hushL ?_
        intro hG
        obtain ⟨_, o, ho, _⟩ := BG.frames.mem z
        k_unfold
        clear hG
        rw [hh.2.2] at ho; cases ho
  have fl : (hideAll h9 ((env' :: outer).filterMap (·.frame) ++ [e, t])).get? e = none := hideAll_none _ (by simp)
  have tl : (hideAll h9 ((env' :: outer).filterMap (·.frame) ++ [e, t])).get? t = none := hideAll_none _ (by simp)
  have frs : h9.FunFrames (hideAll h9 ((env' :: outer).filterMap (·.frame) ++ [e, t])) (env' :: outer) := by
    have z : h.FunFrames base (env' :: outer) := B1.frames
    have key : ∀ l : List Env, (∀ env ∈ l, ∀ a, env.frame = some a → a ∈ (env' :: outer).filterMap (·.frame)) → h.FunFrames base l → h9.FunFrames (hideAll h9 ((env' :: outer).filterMap (·.frame) ++ [e, t])) l := by
      intro l
      induction l with
      | nil => intro _ _; trivial
      | cons a r ih =>
        intro hm zz2
        refine hushL ?_
        intro hG
        obtain ⟨k1, ⟨L9, o9, f1, f2, f3, f4⟩, k3⟩ := zz2
        k_unfold
        clear hG
        exact ⟨k1, ⟨L9, o9, f1, hideAll_none _ (List.mem_append_left _ (hm a (.head _) L9 f1)), Md.keep _ _ f3, f4⟩, ih (fun env he => hm env (.tail _ he)) k3⟩
    exact key _ hin z
  exact ⟨_, st, sg, hl, fl, tl, frs, fun b o q => of_hideAll _ q, (Heap.UpToSlots.of_keeps F.keep).trans (Heap.UpToSlots.of_keeps Md.keep)⟩
theorem leave_X {M : Model} {A A' : Around} {base g h : Heap} {env' : Env} {outer : List Env} {L' e t D C : Addr} {w : Value} {m' : Str → Option Value} {news' : Led} {s' : Shared} {E : Value → Shared → Prop}
    (hA : A'.frames = some (env' :: outer)) (BG : Below A base outer g) (F : Fr g L' h m') (N : News g L' h news') (Md : Made9 g L' h s'.heap e t D C w) (hf : env'.frame = some L') (hk : env'.scope.kind = .function)
    (ok : ∀ h' es n, RaisedT base g outer e C D w ((D, dictOf [⟨es, .str (Str.ofString "told") n, w⟩] 1) :: news') h' → g.UpToSlots h' → E (.ref e) { s' with heap := h' }) :
    wpAny M A' (leaving env' (.ref e)) (fun _ s'' => E (.ref e) s'') (fun _ _ => False) s' := by
  refine hushL ?_
  intro hG
  obtain ⟨es, n, hD⟩ := Md.dict
  k_unfold
  clear hG
  refine hushL ?_
  intro hG
  obtain ⟨B, st, sg, hl, fl, tl, frs, stB, up⟩ := prep_X BG F N Md hD hf hk
  k_unfold
  clear hG
  refine dp_any (dp_leaving _ _) (d := D) ⟨_, Md.at_, rfl⟩ ?_
  refine wpAny_leaving_firstW (a0 := .ref t) hA frs hf Md.at_ stB fl rfl rfl rfl fun h' hL hd' => ?_
  refine hushL ?_
  intro hG
  obtain ⟨k1, ⟨_, _, k2⟩, k3, k4⟩ := hL
  k_unfold
  clear hG
  exact ok h' es n ⟨t, _, st, sg, hl, ⟨k1, fl, k2, k3⟩, tl, hd', es, n, .head _⟩ (up.trans k4)
theorem setFlight_some {M : Model} {A : Around} {s : Shared} {E : Value → Shared → Prop} {base : Heap} {l : List Env} {e L : Addr} {cls a0 fl : Value} {Q : Unit → Shared → Prop}
    (hkb : base.StaysIn s.heap) (hl : s.heap.FunFrames base l) (ht : s.heap.TracedAtW base e cls a0 fl)
    (h : ∀ h', base.StaysIn h' → h'.FunFrames base l → h'.TracedAtW base e cls a0 (rawInt L) → s.heap.UpToSlots h' → Q () { s with heap := h' }) :
    wpAny M A (setFlight (.ref e) (some L)) Q E s := by
  refine hushL ?_
  intro hG
  obtain ⟨oe, vs, T, oT, ts, he, hcls, hd, h1, hnT, hTe, hT, hdT, h3⟩ := ht
  k_unfold
  clear hG
  have hsz3 : 3 < ts.size := (Array.getElem?_eq_some_iff.mp h3).1
  have other : ∀ b, b ≠ T → (s.heap.update T (Obj.mapFields (·.setIfInBounds 3 ((some L).elim Value.none fun f => rawInt f)))).get? b = s.heap.get? b :=
    fun b hb => Heap.get?_update_other _ _ (Ne.symm hb)
  have noRecord : ∀ b o, s.heap.get? b = some o → (∀ vs, o.data ≠ .fields vs) → b ≠ T := fun b o hb hnf q => by
    rw [q, hT] at hb; injection hb with hb; subst hb; exact hnf ts hdT
  unfold setFlight
  refine wpAny_bind (wpAny_field he hd h1 ?_)
  rw [if_pos (show (Value.ref T != Value.none) = true from by simp)]
  refine wpAny_setField hT hdT hsz3 (h _ (fun b o hbo => (other b fun q => by rw [q, hnT] at hbo; cases hbo).trans (hkb b o hbo))
    (hl.of_keeps fun b o hb hnf => ⟨o, (other b (noRecord b o hb hnf)).trans hb, rfl⟩) ?_ fun b o hb hnf => ⟨o.slots, (other b (noRecord b o hb hnf)).trans hb⟩)
  exact ⟨oe, vs, T, _, _, (other e (Ne.symm hTe)).trans he, hcls, hd, h1, hnT, hTe, Heap.get?_update_self _ hT (Obj.isFreed_of_fields (Obj.data_mapFields hdT _)), Obj.data_mapFields hdT _, by simp [hsz3]⟩
theorem wpAny_leaves_onHeld {M : Model} {A : Around} {s : Shared} {E : Value → Shared → Prop} {base : Heap} {env : Env} {outer : List Env} {L e : Addr} {cls a0 : Value} {Q : Unit → Shared → Prop} (hf : env.frame = some L)
    (hh : Heap.HeldW base (env :: outer) e cls a0 L s.heap) (hQ : ∀ h', Heap.FlyingW base outer e cls a0 h' → s.heap.UpToSlots h' → Q () { s with heap := h' }) : wpAny M A (leaving env (.ref e)) Q E s := by
  unfold leaving
  refine wpAny_bind (wpAny_noteFrame_againW hf hh.2.2.2 ?_)
  refine wpAny_landsW hh fun h' hfl up => ?_
  refine hushL ?_
  intro hG
  obtain ⟨k1, k2, ⟨_, _, k3⟩, k4⟩ := hfl
  k_unfold
  clear hG
  exact hQ h' ⟨k1, k2, k3, k4⟩ up
/-- as «leave_X», where the raise stands in a while -/
theorem leave_XW {M : Model} {A A' : Around} {base g h : Heap} {env' : Env} {outer : List Env} {L' e t D C : Addr} {w : Value} {m' : Str → Option Value} {news' : Led} {s' : Shared} {E : Value → Shared → Prop}
    (hA : A'.frames = some (env' :: outer)) (BG : Below A base outer g) (F : Fr g L' h m') (N : News g L' h news') (Md : Made9 g L' h s'.heap e t D C w) (hf : env'.frame = some L') (hk : env'.scope.kind = .function)
    (ok : ∀ h' es n, RaisedT base g outer e C D w ((D, dictOf [⟨es, .str (Str.ofString "told") n, w⟩] 1) :: news') h' → g.UpToSlots h' → E (.ref e) { s' with heap := h' }) :
    wpAny M A' (noteFrame (.ref e) env') (fun _ s1 => cameBackBy M A' env' (fun v s2 => wpAny M A' (leaving env' v) (fun _ s'' => E v s'') (fun _ _ => False) s2) (.ref e) s1) (fun _ _ => False) s' := by
  refine hushL ?_
  intro hG
  obtain ⟨es, n, hD⟩ := Md.dict
  k_unfold
  clear hG
  refine hushL ?_
  intro hG
  obtain ⟨B, st, sg, hl, fl, tl, frs, stB, up⟩ := prep_X BG F N Md hD hf hk
  k_unfold
  clear hG
  have hfr := hA
  refine dp_any (dp_note _ _) (d := D) ⟨_, Md.at_, rfl⟩ ?_
  unfold noteFrame
  simp only [hf]
  refine wpAny_bind (wpAny_field (x := .none) Md.at_ rfl rfl ?_)
  rw [if_neg (by decide)]
  refine wpAny_entryW hfr frs hf Md.at_ stB fl rfl (by simp) (a0 := .ref t) rfl fun h1 hN hd1 => ?_
  refine hushL ?_
  intro hG
  obtain ⟨k1, k2, k3, k4⟩ := hN
  k_unfold
  clear hG
  unfold cameBackBy
  refine hushL ?_
  intro hG
  obtain ⟨oe, vs, T, oT, ts, q1, q2, q3, q4, q5⟩ := id k3
  k_unfold
  clear hG
  refine wpAny_bind (wpAny_field q1 q3 q4 ?_)
  rw [if_neg (by simp)]
  rw [hf]
  refine dp_any (dp_setFlight _ _) hd1 ?_
  refine setFlight_some k1 k2 k3 fun h2 j1 j2 j3 j4 hd2 => ?_
  refine dp_any (dp_leaving _ _) hd2 ?_
  refine wpAny_leaves_onHeld (outer := outer) hf ⟨j1, fl, j2, j3⟩ fun h3 i1 i2 hd3 => ?_
  exact ok h3 es n ⟨t, _, st, sg, hl, i1, tl, hd3, es, n, .head _⟩ (up.trans ((show Heap.UpToSlots _ _ from k4).trans (j4.trans i2)))
end J_X1
example {M : Model} {A : Around} {Q : Unit → Shared → Prop} {E : Value → Shared → Prop} {s : Shared} : wpAny M A (pure ()) Q E s ∨ True := by w_top off; first | (left; walk1; done) | (right; trivial)
section J_X2
noncomputable abbrev fr9 (l : List Env) : List Addr := l.filterMap (·.frame)
structure AtT (c : Cx) (dp un : Nat) (gd : Option (List Code)) (cn : Str) (cs : Scope) (a : Addr) (ccd : Value) (cl : List (Str × Addr)) (outer : List Env) (A₀ : Around) (base h₀ : Heap) (L : Addr) (m : Str → Option Value) (h : Heap) (news : Led) : Prop where
  at_ : At c dp un gd cn cs a ccd cl outer A₀ base h₀ L m h news
  XB : (hd.heap_1 c.w.params).In base
  TB : Top hd.view_1 LO c.mean c.mg c.mb base
  D : KtsDicts (fr9 outer) h₀
/-- as «Spec», where the frames below may be turned and an exception may come out -/
noncomputable def SpecX (c : Cx) (f : Addr) (d u : Nat) (vs : List Value) (news : Led) (S : List Addr) (R : Value → Led → Prop) (RE : Addr → Value → Prop) : Prop :=
  ∀ (dp un : Nat) (gd : Option (List Code)) (cn : Str) (cs : Scope) (a : Addr) (ccd : Value) (cl : List (Str × Addr)) (outer : List Env) (A₀ : Around) (base h₀ : Heap) (L : Addr) (m : Str → Option Value) (s : Shared) (Q E : Value → Shared → Prop),
    AtT c dp un gd cn cs a ccd cl outer A₀ base h₀ L m s.heap news → dp + d < recursionLimit → un + u < cLine →
    (∀ r news' h' tk' h₀', R r news' → (∀ p ∈ news, p.1 ∉ S → p ∈ news') → KtsTurn (fr9 outer) h₀ h₀' → Fr h₀' L h' m → News h₀' L h' news' → Below A₀ base outer h₀' → Q r { s with heap := h', toks := tk' }) →
    (∀ e C D w news' h' tk' g, RE C w → (∀ p ∈ news, p.1 ∉ S → p ∈ news') → Fr h₀ L g m → RaisedT base g (envX cn cs L a ccd cl :: outer) e C D w news' h' → g.UpToSlots h' → E (.ref e) { s with heap := h', toks := tk' }) →
    wpAny (model PySem.Challenge.rw_pb0121_01.row.prog c.w) (ktrTop dp un gd cn cs L a ccd cl outer) (call (.ref f) vs) Q E s
/-- an exception that has left a frame -/
noncomputable def OutX (base g : Heap) (l : List Env) (news : Led) (S : List Addr) (RE : Addr → Value → Prop) (s : Shared) (v : Value) (s'' : Shared) : Prop :=
  ∃ e C D w news', v = .ref e ∧ RE C w ∧ (∀ p ∈ news, p.1 ∉ S → p ∈ news') ∧ RaisedT base g l e C D w news' s''.heap ∧ g.UpToSlots s''.heap ∧ s''.gens = s.gens ∧ s''.drawn = s.drawn ∧ s''.os = s.os
/-- the end of a body by an exception -/
noncomputable def ErrX (c : Cx) (dp un : Nat) (gd : Option (List Code)) (qual : Str) (scope : Scope) (L' f : Addr) (cdv : Value) (cl : List (Str × Addr)) (outer : List Env) (base g : Heap) (news : Led) (S : List Addr) (RE : Addr → Value → Prop) (s : Shared) (v : Value) (s' : Shared) : Prop :=
  wpAny (model PySem.Challenge.rw_pb0121_01.row.prog c.w) (ktrTop dp un gd qual scope L' f cdv cl outer) (leaving (envX qual scope L' f cdv cl) v) (fun _ s'' => OutX base g outer news S RE s v s'') (fun _ _ => False) s'
noncomputable def FinX (fs : List Addr) (g : Heap) (L' : Addr) (news : Led) (S : List Addr) (R : Value → Led → Prop) (s : Shared) (fl : Flow) (s' : Shared) : Prop :=
  ∃ g' m' news', KtsTurn fs g g' ∧ Fr g' L' s'.heap m' ∧ News g' L' s'.heap news' ∧ (∀ p ∈ news, p.1 ∉ S → p ∈ news') ∧ R (flowVal fl) news' ∧ s'.gens = s.gens ∧ s'.drawn = s.drawn ∧ s'.os = s.os
theorem mem_fr {env : Env} {outer : List Env} {L b : Addr} (hf : env.frame = some L) (hm : b ∈ fr9 (env :: outer)) : b = L ∨ b ∈ fr9 outer := by
  refine hushL ?_
  intro hG
  obtain ⟨e, he, hq⟩ := List.mem_filterMap.mp hm
  k_unfold
  clear hG
  rcases List.mem_cons.mp he with rfl | he
  · exact .inl (Option.some.inj (hf.symm.trans hq)).symm
  · exact .inr (List.mem_filterMap.mpr ⟨e, he, hq⟩)
theorem leave_turn {A₀ : Around} {base h₀ h h' g' : Heap} {outer : List Env} {L L' : Addr} {m m' : Str → Option Value} {news news' : Led} {env : Env}
    (B : Below A₀ base outer h₀) (F : Fr h₀ L h m) (N : News h₀ L h news) (hf : env.frame = some L) (T' : KtsTurn (fr9 (env :: outer)) (hideAll h (news.map (·.1))) g') (F' : Fr g' L' h' m') (N' : News g' L' h' news') :
    ∃ h₀', KtsTurn (fr9 outer) h₀ h₀' ∧ Fr h₀' L h' m ∧ News h₀' L h' news' ∧ Below A₀ base outer h₀' := by
  have nm : ∀ b o, h₀.get? b = some o → b ∉ news.map (·.1) := fun b o e q => by
    obtain ⟨p, hp, rfl⟩ := List.mem_map.mp q
    rw [(N p hp).2.2] at e; cases e
  have st : ∀ b o, h₀.get? b = some o → (hideAll h (news.map (·.1))).get? b = some o := fun b o e => hideAll_get _ (F.keep b o e) (nm b o e)
  refine hushL ?_
  intro hG
  obtain ⟨oL, es, ep, hL, hLd, hLk, hLf⟩ := F.ns
  k_unfold
  clear hG
  have nL : L ∉ news.map (·.1) := fun q => by
    refine hushL ?_
    intro hG
    obtain ⟨p, hp, e⟩ := List.mem_map.mp q
    k_unfold
    clear hG
    exact (N p hp).2.1 e
  have hLg := hideAll_get (news.map (·.1)) hL nL
  have nL₀ : h₀.get? L = none := kts_self F
  obtain ⟨sl, hs⟩ := T'.up hLg
  obtain ⟨T₁, S₁⟩ := kts_turn_at (h := h') (fs := fr9 outer) (g := h₀)
    (fun b hb => by
      refine hushL ?_
      intro hG
      obtain ⟨_, o, ho', _⟩ := B.frames.mem hb
      k_unfold
      clear hG
      exact ⟨o, ho'⟩)
    (fun b o e nmem => F'.keep b o (T'.other b o (st b o e) (fun q => by
      rcases mem_fr hf q with z | z
      · rw [z, nL₀] at e; cases e
      · exact nmem z)))
    (fun b o e hm => by
      obtain ⟨sl', hs'⟩ := T'.up (st b o e)
      exact ⟨sl', F'.keep _ _ hs'⟩)
  refine ⟨_, T₁, ⟨⟨_, es, ep, F'.keep _ _ hs, hLd, hLk, hLf⟩, S₁, by rw [T₁.size]; exact F.above⟩, fun p hp => ⟨(N' p hp).1, fun q => ?_, ?_⟩, ⟨B.stack, fun b o e => T₁.other b o (B.stays b o e) (fun hm => by
    rw [(B.frames.mem hm).1] at e
    cases e), B.frames.of_keeps fun b o e _ => by
    obtain ⟨sl', hs'⟩ := T₁.up e
    exact ⟨_, hs', rfl⟩⟩⟩
  · have := (N' p hp).2.2; rw [q, hs] at this; cases this
  · refine T₁.none_ _ ?_
    cases q : h₀.get? p.1 with
    | none => rfl
    | some o =>
      obtain ⟨sl', hs'⟩ := T'.up (st _ _ q)
      have := (N' p hp).2.2
      rw [hs'] at this
      cases this
theorem dicts_in {h₀ h : Heap} {outer : List Env} {L : Addr} {m : Str → Option Value} {news : Led} {env : Env} (F : Fr h₀ L h m) (N : News h₀ L h news) (hf : env.frame = some L) (D : KtsDicts (fr9 outer) h₀) : KtsDicts (fr9 (env :: outer)) (hideAll h (news.map (·.1))) := fun b hb => by
  have nm : ∀ b o, h₀.get? b = some o → b ∉ news.map (·.1) := fun b o e q => by
    obtain ⟨p, hp, rfl⟩ := List.mem_map.mp q
    rw [(N p hp).2.2] at e; cases e
  rcases mem_fr hf hb with rfl | hb
  · refine hushL ?_
    intro hG
    obtain ⟨oL, es, ep, hL, hLd, _⟩ := F.ns
    k_unfold
    clear hG
    refine ⟨oL, es, ep, hideAll_get _ hL fun q => ?_, hLd⟩
    refine hushL ?_
    intro hG
    obtain ⟨p, hp, e⟩ := List.mem_map.mp q
    k_unfold
    clear hG
    exact (N p hp).2.1 e
  · refine hushL ?_
    intro hG
    obtain ⟨o, es, n, ho, hd⟩ := D b hb
    k_unfold
    clear hG
    exact ⟨o, es, n, hideAll_get _ (F.keep _ _ ho) (nm _ _ ho), hd⟩
theorem enterX {c : Cx} {f : Addr} {d u : Nat} {vs : List Value} {news : Led} {S : List Addr} {R : Value → Led → Prop} {RE : Addr → Value → Prop} {name qual : Str} {params : Arguments} {body : List Stmt} {scope : Scope} {dV kV doc pm cdv ct oc : Value} {an od : Option Addr} {osl : Array (Option Value)} {binds : List (Str × Value)}
    (ho : (hd.heap_1 c.w.params).lookup f = some ⟨oc, od, .func (fnOf name qual params body scope dV kV doc pm an cdv ct), osl⟩) (hcd : codeIn (hd.heap_1 c.w.params) cdv qual = true)
    (hbind : ∀ s : Shared, (hd.heap_1 c.w.params).In s.heap → BindsTo s (fnOf name qual params body scope dV kV doc pm an cdv ct) ⟨vs, []⟩ binds) (hloc : ∀ y ∈ binds, scope.names.lookup y.1 = some .local)
    (hco : scope.isCoroutine = false) (hgen : scope.isGenerator = false) (hk : scope.kind = .function) (hcell : ∀ x ∈ scope.names, x.2 ≠ .cell)
    (h : ∀ (dp un : Nat) (gd : Option (List Code)) (outer : List Env) (A₀ : Around) (base g : Heap) (L' : Addr) (h₁ : Heap) (tk : Nat) (s : Shared),
      AtT c dp un gd qual scope f cdv [] outer A₀ base g L' (fun y => binds.reverse.lookup y) h₁ news → dp + d < recursionLimit + 1 → un + u < cLine + 3 →
      wpAny (model PySem.Challenge.rw_pb0121_01.row.prog c.w) (ktrTop dp un gd qual scope L' f cdv [] outer) (execs body (envX qual scope L' f cdv [])) (FinX (fr9 outer) g L' news S R s) (ErrX c dp un gd qual scope L' f cdv [] outer base g news S RE s) { s with heap := h₁, toks := tk }) :
    SpecX c f d u vs news S R RE := by
  intro dp un gd cn cs a ccd cl outer A₀ base h₀ L m s Q E C hd9 hu9 hret hexc
  refine hushL ?_
  intro hG
  obtain ⟨⟨B, F, X, N, T, hk9⟩, XB, TB, D⟩ := C
  k_unfold
  clear hG
  refine wpAny_call ?_
  have XS := X.keeps F.keep
  refine hushL ?_
  intro hG
  obtain ⟨FG, BG, st, lv⟩ := groundX (A := (ktrTop dp un gd cn cs L a ccd cl outer)) (env := envX cn cs L a ccd cl) (outer := outer) (R := fun r s' => match r with | .ok (.ret v) => Q v s' | .ok _ => False | .error e => E e s') B F N rfl rfl hk9
  k_unfold
  clear hG
  refine codeAny_call_def (fd := fnX name qual params body scope [] dV kV doc pm an cdv ct) (body := body) (binds := binds) (by show dp < recursionLimit; omega) (XS _ _ ho) rfl (T.nolimit.keeps F.keep) (codeRec_of XS hcd) rfl (hbind s XS) hcell hloc (fun h₁ hns hk₁ => ?_) hco hgen hk
  have z := h (dp + 1) (un + 3) gd (envX cn cs L a ccd cl :: outer) _ base (hideAll s.heap (news.map (·.1))) s.heap.objs.size h₁ (s.toks + binds.length) s
    ⟨⟨BG, ⟨hns, fun b o e => hk₁ b o (of_hideAll _ e), Nat.le_of_eq (hideAll_size _ _)⟩, X.keeps st, (fun p hp => ⟨hk₁ _ _ (N p hp).1, Nat.ne_of_lt (Heap.lt_size (N p hp).1), hideAll_none _ (List.mem_map_of_mem hp)⟩), T.keeps st, hk⟩, XB, TB, dicts_in F N rfl D⟩ (by omega) (by omega)
  refine wpAny_mono z (fun fl s' hf => ?_) (fun e s' he => ?_)
  · refine hushL ?_
    intro hG
    obtain ⟨g', m', news', T', F', N', sub, hR, e1, e2, e3⟩ := hf
    k_unfold
    clear hG
    refine hushL ?_
    intro hG
    obtain ⟨h₀', t1, f1, n1, b1⟩ := leave_turn (env := envX cn cs L a ccd cl) B F N rfl T' F' N'
    k_unfold
    clear hG
    have := hret _ news' s'.heap s'.toks h₀' hR sub t1 f1 n1 b1
    have es : s' = { s with heap := s'.heap, toks := s'.toks } := by cases s'; cases s; simp_all
    rw [es]
    cases fl <;> exact this
  · refine wpAny_mono he (fun _ s'' hx => ?_) (fun _ _ x => x.elim)
    refine hushL ?_
    intro hGG
    obtain ⟨e9, C9, D9, w, news', rfl, hRE, sub, RT, up, e1, e2, e3⟩ := hx
    k_unfold
    clear hGG
    have es : s'' = { s with heap := s''.heap, toks := s''.toks } := by cases s''; cases s; simp_all
    show E (.ref e9) s''
    rw [es]
    exact hexc e9 C9 D9 w news' s''.heap s''.toks _ hRE sub FG RT up
/-- as «enterX», where names of the def are kept in cells -/
theorem enterXC {c : Cx} {f : Addr} {d u : Nat} {vs : List Value} {news : Led} {S : List Addr} {R : Value → Led → Prop} {RE : Addr → Value → Prop} {name qual : Str} {params : Arguments} {body : List Stmt} {scope : Scope} {dV kV doc pm cdv ct oc : Value} {an od : Option Addr} {osl : Array (Option Value)} {binds : List (Str × Value)}
    (ho : (hd.heap_1 c.w.params).lookup f = some ⟨oc, od, .func (fnOf name qual params body scope dV kV doc pm an cdv ct), osl⟩) (hcd : codeIn (hd.heap_1 c.w.params) cdv qual = true)
    (hbind : ∀ s : Shared, (hd.heap_1 c.w.params).In s.heap → BindsTo s (fnOf name qual params body scope dV kV doc pm an cdv ct) ⟨vs, []⟩ binds) (hkind : (binds.all fun y => scope.names.lookup y.1 == some .local || scope.names.lookup y.1 == some .cell) = true)
    (hnd : ((cellsFrom 0 scope.names []).map (·.1)).Nodup)
    (hco : scope.isCoroutine = false) (hgen : scope.isGenerator = false) (hk : scope.kind = .function)
    (h : ∀ (dp un : Nat) (gd : Option (List Code)) (outer : List Env) (A₀ : Around) (base g : Heap) (L' : Addr) (h₁ : Heap) (tk : Nat) (s : Shared) (cells : Led),
      AtT c dp un gd qual scope f cdv (cellsFrom (L' + 1) scope.names []) outer A₀ base g L' (bindL (envX qual scope L' f cdv (cellsFrom (L' + 1) scope.names [])).kindOf binds fun _ => none) h₁ (cells ++ news) → dp + d < recursionLimit + 1 → un + u < cLine + 3 →
      CellsAre (bindC (envX qual scope L' f cdv (cellsFrom (L' + 1) scope.names [])).kindOf binds fun _ => none) (cellsFrom (L' + 1) scope.names []) cells → (∀ p ∈ news, p.1 < L') →
      wpAny (model PySem.Challenge.rw_pb0121_01.row.prog c.w) (ktrTop dp un gd qual scope L' f cdv (cellsFrom (L' + 1) scope.names []) outer) (execs body (envX qual scope L' f cdv (cellsFrom (L' + 1) scope.names []))) (FinX (fr9 outer) g L' news S R s) (ErrX c dp un gd qual scope L' f cdv (cellsFrom (L' + 1) scope.names []) outer base g news S RE s) { s with heap := h₁, toks := tk }) :
    SpecX c f d u vs news S R RE := by
  intro dp un gd cn cs a ccd cl outer A₀ base h₀ L m s Q E C hd9 hu9 hret hexc
  refine hushL ?_
  intro hG
  obtain ⟨⟨B, F, X, N, T, hk9⟩, XB, TB, D⟩ := C
  k_unfold
  clear hG
  refine wpAny_call ?_
  have XS := X.keeps F.keep
  refine hushL ?_
  intro hG
  obtain ⟨FG, BG, st, lv⟩ := groundX (A := (ktrTop dp un gd cn cs L a ccd cl outer)) (env := envX cn cs L a ccd cl) (outer := outer) (R := fun r s' => match r with | .ok (.ret v) => Q v s' | .ok _ => False | .error e => E e s') B F N rfl rfl hk9
  k_unfold
  clear hG
  refine codeAny_call_function (o := ⟨oc, od, .func (fnOf name qual params body scope dV kV doc pm an cdv ct), osl⟩) (by show dp < recursionLimit; omega) (XS _ _ ho) rfl hco hgen rfl (codeRec_of XS hcd) (hbind s XS _ _ _ _ ?_)
  refine wpAny_newFunctionEnv_cells hk (kindsX hkind _) fun env' he s' x => ?_
  subst he
  refine ⟨(T.nolimit.keeps F.keep).keeps x.toInCall.keep, codeAny_func ?_⟩
  have hkeep := x.toInCall.keep
  refine hushL ?_
  intro hGG
  obtain ⟨h₁, tk, rfl, -⟩ := x.done
  k_unfold
  clear hGG
  refine hushL ?_
  intro hG
  obtain ⟨cells, NC, Y⟩ := Cl.news (h₀ := s.heap) (Nat.le_refl _) fun n c hm => ⟨x.cell n c (lookup_of_mem_nodup (cellsFrom_names scope.names 0 (s.heap.objs.size + 1) [] [] rfl ▸ hnd) hm), x.above n c hm⟩
  k_unfold
  clear hG
  have NN : News (hideAll s.heap (news.map (·.1))) s.heap.objs.size h₁ (cells ++ news) := by
    intro p hp
    rcases List.mem_append.mp hp with hp | hp
    · refine ⟨(NC p hp).1, (NC p hp).2.1, ?_⟩
      cases q : (hideAll s.heap (news.map (·.1))).get? p.1 with
      | none => rfl
      | some o => have := of_hideAll _ q; rw [(NC p hp).2.2] at this; cases this
    · exact ⟨hkeep _ _ (N p hp).1, Nat.ne_of_lt (Heap.lt_size (N p hp).1), hideAll_none _ (List.mem_map_of_mem hp)⟩
  have Xg : (hd.heap_1 c.w.params).In (hideAll s.heap (news.map (·.1))) := Frag.In.keeps X st
  have Tg : Top hd.view_1 LO c.mean c.mg c.mb (hideAll s.heap (news.map (·.1))) := Top.keeps T st
  have z := h (dp + 1) (un + 3) gd (envX cn cs L a ccd cl :: outer) _ base (hideAll s.heap (news.map (·.1))) s.heap.objs.size h₁ tk s cells
    ⟨⟨BG, ⟨x.toInCall.ns, fun b o e => hkeep b o (of_hideAll _ e), Nat.le_of_eq (hideAll_size _ _)⟩, Xg, NN, Tg, hk⟩, XB, TB, dicts_in F N rfl D⟩ (by omega) (by omega) Y (fun p hp => Heap.lt_size (N p hp).1)
  refine wpAny_mono z (fun fl s' hf => ?_) (fun e s' he => ?_)
  · refine hushL ?_
    intro hG
    obtain ⟨g', m', news', T', F', N', sub, hR, e1, e2, e3⟩ := hf
    k_unfold
    clear hG
    refine hushL ?_
    intro hG
    obtain ⟨h₀', t1, f1, n1, b1⟩ := leave_turn (env := envX cn cs L a ccd cl) B F N rfl T' F' N'
    k_unfold
    clear hG
    have := hret _ news' s'.heap s'.toks h₀' hR sub t1 f1 n1 b1
    have es : s' = { s with heap := s'.heap, toks := s'.toks } := by cases s'; cases s; simp_all
    rw [es]
    cases fl <;> exact this
  · refine wpAny_mono he (fun _ s'' hx => ?_) (fun _ _ x => x.elim)
    refine hushL ?_
    intro hGG
    obtain ⟨e9, C9, D9, w, news', rfl, hRE, sub, RT, up, e1, e2, e3⟩ := hx
    k_unfold
    clear hGG
    have es : s'' = { s with heap := s''.heap, toks := s''.toks } := by cases s''; cases s; simp_all
    show E (.ref e9) s''
    rw [es]
    exact hexc e9 C9 D9 w news' s''.heap s''.toks _ hRE sub FG RT up
end J_X2
example {M : Model} {A : Around} {Q : Unit → Shared → Prop} {E : Value → Shared → Prop} {s : Shared} : wpAny M A (pure ()) Q E s ∨ True := by w_top off; first | (left; walk1; done) | (right; trivial)
section J_X3
/-- an exception that has come to rest in a frame -/
structure Rest9 (G B : Heap) (l : List Env) (e C D t : Addr) (h : Heap) : Prop where
  fly : Heap.FlyingW B l e (.ref C) (.ref t) h
  dict : HasD e D h
  up : G.UpToSlots h
theorem land9 {M : Model} {A : Around} {E : Value → Shared → Prop} {base G B : Heap} {env : Env} {outer : List Env} {L e C D t : Addr} {s : Shared} {Q : Unit → Shared → Prop}
    (hfr : A.frames = some (env :: outer)) (hf : env.frame = some L) (R : Rest9 G B (env :: outer) e C D t s.heap) (h : ∀ h', Rest9 G B (env :: outer) e C D t h' → Q () { s with heap := h' }) :
    wpAny M A (noteFrame (.ref e) env) (fun _ s₂ => wpAny M A (setFlight (.ref e) none) Q E s₂) E s := by
  refine dp_any (dp_note _ _) R.dict (wpAny_looks_onW hfr hf R.fly fun h₄ q1 q2 d1 => ?_)
  refine dp_any (dp_setFlight _ _) d1 (wpAny_landsW q1 fun h₅ q3 q4 d2 => ?_)
  exact h h₅ ⟨q3, d2, R.up.trans (q2.trans q4)⟩
theorem again9 {M : Model} {A : Around} {E : Value → Shared → Prop} {G B : Heap} {l : List Env} {e C D t : Addr} {s : Shared} {Q : Unit → Shared → Prop}
    (R : Rest9 G B l e C D t s.heap) (h : ∀ h', Rest9 G B l e C D t h' → Q () { s with heap := h' }) : wpAny M A (setFlight (.ref e) none) Q E s := by
  refine dp_any (dp_setFlight _ _) R.dict (lands_againW R.fly fun h₅ q3 q4 d2 => ?_)
  exact h h₅ ⟨q3, d2, R.up.trans q4⟩
theorem ground9 {A₀ : Around} {base g G B h : Heap} {outer : List Env} {L a e C D t : Addr} {m : Str → Option Value} {name : Str} {scope : Scope} {cd : Value} {news : Led}
    (K : Below A₀ base outer g) (F : Fr g L G m) (DD : KtsDicts (fr9 outer) g) (hBG : ∀ b o, G.get? b = some o → b ∉ (envOf name scope L a cd :: outer).filterMap (·.frame) → B.get? b = some o)
    (hl : ∀ q ∈ news, B.get? q.1 = some q.2 ∧ G.get? q.1 = none ∧ base.get? q.1 = none) (R : Rest9 G B (envOf name scope L a cd :: outer) e C D t h) :
    ∃ g' oe vs, KtsTurn (fr9 outer) g g' ∧ Fr g' L h m ∧ Below A₀ base outer g' ∧ News g' L h ((e, oe) :: news) ∧ oe.cls = .ref C ∧ oe.data = .fields vs ∧ oe.dict = some D ∧ KtsDicts (fr9 outer) g' := by
  have hL : B.get? L = none := by
    refine hushL ?_
    intro hG
    obtain ⟨_, ⟨L', _, hf, hn', _⟩, _⟩ := R.fly.2.2.1
    k_unfold
    clear hG
    obtain rfl : L = L' := Option.some.inj hf
    exact hn'
  refine hushL ?_
  intro hG
  obtain ⟨g', T', F', K'⟩ := kts_ground K F hBG R.fly.1 R.up
  k_unfold
  clear hG
  refine hushL ?_
  intro hG
  obtain ⟨oe, ws, hoe, hoec, hoed, hoe0⟩ := R.fly.first
  k_unfold
  clear hG
  have ne' : g'.get? e = none := T'.none_ _ (kts_fresh F hBG R.fly.2.1 fun o ho m => by
    refine hushL ?_
    intro hG
    obtain ⟨_, o', ho', hd⟩ := K.frames.mem m
    k_unfold
    clear hG
    rw [ho] at ho'
    cases ho'
    obtain ⟨sl, hs⟩ := R.up _ _ (F.keep _ _ ho) hd
    rw [hoe] at hs
    cases hs
    exact hd _ hoed)
  have Nl : News g' L h news := fun q hq => ⟨R.fly.1 _ _ (hl q hq).1, (fun z => by have := (hl q hq).1; rw [z, hL] at this; cases this), T'.none_ _ (kts_none F.keep (hl q hq).2.1)⟩
  have dd : oe.dict = some D := by
    refine hushL ?_
    intro hG
    obtain ⟨o, q1, q2⟩ := R.dict
    k_unfold
    clear hG
    rw [hoe] at q1
    cases q1; exact q2
  refine ⟨g', oe, ws, T', F', K', ?_, hoec, hoed, dd, DD.turn T'⟩
  intro q hq
  rcases List.mem_cons.mp hq with rfl | hq
  · refine ⟨hoe, fun z => ?_, ne'⟩
    refine hushL ?_
    intro hG
    obtain ⟨oL, es, ep, h1, h2, _⟩ := F'.ns
    k_unfold
    clear hG
    have z' : e = L := z
    rw [z'] at hoe
    rw [hoe] at h1
    cases h1
    rw [hoed] at h2
    cases h2
  · exact Nl q hq
section
variable {M : Model} {A : Around} {E : Value → Shared → Prop}
variable {nm q : Str} {C N : Addr} {bs bm : List Value} {hdct : Bool} {sn : List Str} {sub : List Value} {ab : Bool} {col : Option Bool} {dd : Option Addr} {k0 k1 k2 k3 k5 : Option Value} {newId : String}
theorem excMatches_no {h : Heap} {g : Array GenState} {d : Drawn} {t : Nat} {os : OsState} {e C2 : Addr} {oe oC : Obj} {Q : Bool → Shared → Prop} {nm2 q2 : Str} {N2 : Addr} {bs2 bm2 : List Value} {hdct2 : Bool} {sn2 : List Str} {sub2 : List Value} {ab2 : Bool} {col2 : Option Bool} {dd2 : Option Addr} {j0 j1 j2 j3 j5 : Option Value} {newId2 : String}
    (hC : h.get? C = some (excClassObj nm q C N bs bm hdct sn sub ab col dd k0 k1 k2 k3 k5 newId)) (hC2 : h.get? C2 = some (excClassObj nm2 q2 C2 N2 bs2 bm2 hdct2 sn2 sub2 ab2 col2 dd2 j0 j1 j2 j3 j5 newId2)) (he : h.get? e = some oe) (hcls : oe.cls = .ref C) (hbase : bm2.contains (.type "BaseException") = true) (hne : (Value.ref C :: bm).contains (.ref C2) = false)
    (hq : Q false ⟨h, g, d, t, os⟩) : wpAny M A (excMatches (.ref e) (.ref C2)) Q E ⟨h, g, d, t, os⟩ := by
  have hcB : (Value.ref C2 :: bm2).contains (.type "BaseException") = true := by rw [List.contains_cons, hbase, Bool.or_true]
  have f := tc_notTuple
  unfold excMatches
  repeat (first | (with_reducible refine wpAny_loadPart_at he ?_; rw [hcls]) | with_reducible refine wpAny_loadPart_at hC2 ?_ | (with_reducible refine wpAny_isSubtype_exc hC2 ?_; rw [hcB]) | (with_reducible refine wpAny_isSubtype_exc hC ?_; rw [hne]) | wp_step)
  exact hq
end
end J_X3
example {M : Model} {A : Around} {Q : Unit → Shared → Prop} {E : Value → Shared → Prop} {s : Shared} : wpAny M A (pure ()) Q E s ∨ True := by w_top off; first | (left; walk1; done) | (right; trivial)
section J_X4
section
variable {c : Cx} {A₀ : Around} {base g G B : Heap} {outer : List Env} {L a e C D t : Addr} {m : Str → Option Value} {name : Str} {scope : Scope} {cd : Value} {news : Led} {A : Around} {s : Shared} {E : Value → Shared → Prop} {Q : Flow → Shared → Prop} {x : Str} {np pos : Pos} {rest : List ExceptHandler} {b₀ : Stmt} {suite : List Stmt} {C2 : Addr}
/-- what is known where a handler is asked -/
structure Ask9 (c : Cx) (A₀ : Around) (base g G B : Heap) (name : Str) (scope : Scope) (cd : Value) (outer : List Env) (L a e C D t : Addr) (m : Str → Option Value) (news : Led) : Prop where
  K : Below A₀ base outer g
  F : Fr g L G m
  DD : KtsDicts (fr9 outer) g
  XB : (hd.heap_1 c.w.params).In base
  TB : Top hd.view_1 LO c.mean c.mg c.mb base
  BG : ∀ b o, G.get? b = some o → b ∉ (envOf name scope L a cd :: outer).filterMap (·.frame) → B.get? b = some o
  hl : ∀ q ∈ news, B.get? q.1 = some q.2 ∧ G.get? q.1 = none ∧ base.get? q.1 = none
  hC : C = 52 ∨ C = 64 ∨ C = 76
theorem Ask9.of {w : Value} (K : Below A₀ base outer g) (F : Fr g L G m) (DD : KtsDicts (fr9 outer) g) (XB : (hd.heap_1 c.w.params).In base) (TB : Top hd.view_1 LO c.mean c.mg c.mb base) (hC : C = 52 ∨ C = 64 ∨ C = 76) {h : Heap} (up : G.UpToSlots h)
    (R : RaisedT base G (envOf name scope L a cd :: outer) e C D w news h) : ∃ t B, Ask9 c A₀ base g G B name scope cd outer L a e C D t m news ∧ Rest9 G B (envOf name scope L a cd :: outer) e C D t h ∧ ∃ es n, (D, dictOf [⟨es, .str (Str.ofString "told") n, w⟩] 1) ∈ news := by
  refine hushL ?_
  intro hG
  obtain ⟨t, B, hB, hBG, hl, hfl, hnew, hd, hm⟩ := R
  k_unfold
  clear hG
  exact ⟨t, B, ⟨K, F, DD, XB, TB, hBG, hl, hC⟩, ⟨hfl, hd, up⟩, hm⟩
theorem handle_test (H : Ask9 c A₀ base g G B name scope cd outer L a e C D t m news) (R : Rest9 G B (envOf name scope L a cd :: outer) e C D t s.heap) {k : Bool} {Rr : Result → Shared → Prop}
    (ex : nsIn (hd.heap_1 c.w.params) mainGlobals x = some (some (.ref C2))) (hC2 : C2 = 52 ∨ C2 = 64 ∨ C2 = 76) (hk : k = decide (C = C2))
    (h : Rr (.ok (if k then .brk else .next)) s) (hks : scope.kind = .function := by rfl) (hx : (envOf name scope L a cd).kindOf x = some .globalImplicit := by rfl) (hd9 : (x == ("__debug__" : Str)) = false := by decide) :
    codeAny (model PySem.Challenge.rw_pb0121_01.row.prog c.w) A (.handlers (.ref e) [.ExceptHandler (some (.Name x np)) none [] pos] (envOf name scope L a cd)) Rr s := by
  refine hushL ?_
  intro hG
  obtain ⟨g', oe, vs, T', F', K', N', q1, q2, q3, D'⟩ := ground9 H.K H.F H.DD H.BG H.hl R
  k_unfold
  clear hG
  have X' := H.XB.keeps K'.stays
  refine codeAny_handlers_test (name_K F' X' (topRead_of (H.TB.keeps K'.stays)) ex ?_ hks hx hd9)
  refine hushL ?_
  intro hG
  obtain ⟨nm, qn, N9, bs, hdct, sn, sub, ab, col, dd, k0, k1, k2, k3, k5, hCo⟩ := excAt_cls (X'.keeps F'.keep) (excAt9_ok _ C H.hC)
  k_unfold
  clear hG
  refine hushL ?_
  intro hG
  obtain ⟨nm', qn', N9', bs', hdct', sn', sub', ab', col', dd', k0', k1', k2', k3', k5', hCo'⟩ := excAt_cls (X'.keeps F'.keep) (excAt9_ok _ C2 hC2)
  k_unfold
  clear hG
  refine hushL ?_
  intro hG
  obtain ⟨hp, gs, dr, tk, os⟩ := s
  k_unfold
  clear hG
  by_cases hcc : C = C2
  · subst hcc
    rw [hk, decide_eq_true rfl] at h
    exact wpAny_excMatches_sub_self hCo (N' _ (.head _)).1 q1 (by decide) h
  · rw [hk, decide_eq_false hcc] at h
    refine excMatches_no (oC := default) hCo hCo' (N' _ (.head _)).1 q1 (by decide) ?_ h
    have hCn := H.hC
    rcases hCn with rfl | rfl | rfl <;> rcases hC2 with rfl | rfl | rfl <;> first | exact absurd rfl hcc | decide
theorem handle_yes (H : Ask9 c A₀ base g G B name scope cd outer L a e C D t m news) (R : Rest9 G B (envOf name scope L a cd :: outer) e C D t s.heap)
    (ex : nsIn (hd.heap_1 c.w.params) mainGlobals x = some (some (.ref C)))
    (h : ∀ h', Rest9 G B (envOf name scope L a cd :: outer) e C D t h' → wpAny (model PySem.Challenge.rw_pb0121_01.row.prog c.w) (A.mark (some (.ref e))) (execs (b₀ :: suite) (envOf name scope L a cd)) Q (fun _ _ => False) { s with heap := h' })
    (hks : scope.kind = .function := by rfl) (hx : (envOf name scope L a cd).kindOf x = some .globalImplicit := by rfl) (hd9 : (x == ("__debug__" : Str)) = false := by decide) :
    wpAny (model PySem.Challenge.rw_pb0121_01.row.prog c.w) A (handleBy (.ref e) (envOf name scope L a cd) (.ExceptHandler (some (.Name x np)) none (b₀ :: suite) pos :: rest)) Q E s := by
  refine wpAny_handleBy_cons (handle_test H R ex H.hC (k := true) (by simp) ?_ hks hx hd9) (by intro q; cases q)
  refine codeAny_handlers_suite (again9 R fun h' R' => ?_)
  exact wpAny_mono (h h' R') (fun _ _ q => q) (fun _ _ q => q.elim)
theorem handle_no {nm : Option Str} {body : List Stmt} (H : Ask9 c A₀ base g G B name scope cd outer L a e C D t m news) (R : Rest9 G B (envOf name scope L a cd :: outer) e C D t s.heap)
    (ex : nsIn (hd.heap_1 c.w.params) mainGlobals x = some (some (.ref C2))) (hC2 : C2 = 52 ∨ C2 = 64 ∨ C2 = 76) (hne : C ≠ C2)
    (h : wpAny (model PySem.Challenge.rw_pb0121_01.row.prog c.w) A (handleBy (.ref e) (envOf name scope L a cd) rest) Q E s)
    (hks : scope.kind = .function := by rfl) (hx : (envOf name scope L a cd).kindOf x = some .globalImplicit := by rfl) (hd9 : (x == ("__debug__" : Str)) = false := by decide) :
    wpAny (model PySem.Challenge.rw_pb0121_01.row.prog c.w) A (handleBy (.ref e) (envOf name scope L a cd) (.ExceptHandler (some (.Name x np)) nm body pos :: rest)) Q E s :=
  wpAny_handleBy_cons (handle_test H R ex hC2 (k := false) (by simp [hne]) h hks hx hd9) (by intro q; cases q)
theorem handle_as {n : Str} (H : Ask9 c A₀ base g G B name scope cd outer L a e C D t m news) (R : Rest9 G B (envOf name scope L a cd :: outer) e C D t s.heap)
    (ex : nsIn (hd.heap_1 c.w.params) mainGlobals x = some (some (.ref C)))
    (h : ∀ h', Rest9 G B (envOf name scope L a cd :: outer) e C D t h' → wpAny (model PySem.Challenge.rw_pb0121_01.row.prog c.w) (A.mark (some (.ref e))) (storeName (envOf name scope L a cd) n (.ref e)) (fun _ s₂ =>
        wpAny (model PySem.Challenge.rw_pb0121_01.row.prog c.w) (A.mark (some (.ref e))) (execs (b₀ :: suite) (envOf name scope L a cd)) (fun f s₃ => wpAny (model PySem.Challenge.rw_pb0121_01.row.prog c.w) A (do bindName (envOf name scope L a cd) n .none; unbindBehindTheSuite (envOf name scope L a cd) n pos) (fun _ s₄ => Q f s₄) E s₃) (fun _ _ => False) s₂) (fun _ _ => False) { s with heap := h' })
    (hks : scope.kind = .function := by rfl) (hx : (envOf name scope L a cd).kindOf x = some .globalImplicit := by rfl) (hd9 : (x == ("__debug__" : Str)) = false := by decide) :
    wpAny (model PySem.Challenge.rw_pb0121_01.row.prog c.w) A (handleBy (.ref e) (envOf name scope L a cd) (.ExceptHandler (some (.Name x np)) (some n) (b₀ :: suite) pos :: rest)) Q E s := by
  refine wpAny_handleBy_cons (handle_test H R ex H.hC (k := true) (by simp) ?_ hks hx hd9) (by intro q; cases q)
  refine codeAny_handlers_suite_as (again9 R fun h' R' => ?_)
  exact wpAny_mono (h h' R') (fun _ s₂ q => wpAny_mono q (fun _ _ z => z) (fun _ _ z => z.elim)) (fun _ _ q => q.elim)
end
end J_X4
example {M : Model} {A : Around} {Q : Unit → Shared → Prop} {E : Value → Shared → Prop} {s : Shared} : wpAny M A (pure ()) Q E s ∨ True := by w_top off; first | (left; walk1; done) | (right; trivial)
section J_S2
theorem valueAt_mem {K : Type} [DecidableEq K] {kvs : List (K × Value)} {k : K} {v : Value} (hn : (kvs.map (·.1)).Nodup) (hm : (k, v) ∈ kvs) : valueAt kvs k = some v := by
  induction kvs with
  | nil => cases hm
  | cons p kvs ih =>
    rw [List.map_cons, List.nodup_cons] at hn
    unfold valueAt
    rw [List.find?_cons]
    rcases List.mem_cons.mp hm with e | hm
    · rw [← e]; simp
    · have : p.1 ≠ k := fun e => hn.1 (e ▸ List.mem_map.mpr ⟨_, hm, rfl⟩)
      simp only [this, decide_false]
      exact ih hn.2 hm
/-- the thing of a row -/
inductive ComT (news : Led) (M : List Addr) (goal : Option Nat) (th : Value) : Prop
  | mk (g : Nat) (ta D : Addr) (y1 : goal = some g) (y2 : th = .ref ta) (y3 : Off news M ta (instObj 310 D)) (h1 : Int) (t1 : Tok) (t : Tok) (h2 : Int) (t2 : Tok) (v2 : Value) (h3 : Int) (t3 : Tok) (v3 : Value) (h4 : Int) (t4 : Tok) (v4 : Value) (h5 : Int) (t5 : Tok) (v5 : Value) (h6 : Int) (t6 : Tok) (v6 : Value) (n : Nat) (x9 : Off news M D (dictOf [⟨h1, .str (Str.ofString "tree") t1, .bytes (idA g) t⟩, ⟨h2, .str (Str.ofString "parents") t2, v2⟩, ⟨h3, .str (Str.ofString "author") t3, v3⟩, ⟨h4, .str (Str.ofString "committer") t4, v4⟩, ⟨h5, .str (Str.ofString "extra") t5, v5⟩, ⟨h6, .str (Str.ofString "message") t6, v6⟩] n)) : ComT news M goal th
inductive TagT (news : Led) (M : List Addr) (goal : Option Nat) (th : Value) : Prop
  | mk (g : Nat) (ta D : Addr) (y1 : goal = some g) (y2 : th = .ref ta) (y3 : Off news M ta (instObj 346 D)) (h1 : Int) (t1 : Tok) (t : Tok) (h2 : Int) (t2 : Tok) (v2 : Value) (h3 : Int) (t3 : Tok) (v3 : Value) (h4 : Int) (t4 : Tok) (v4 : Value) (h5 : Int) (t5 : Tok) (v5 : Value) (h6 : Int) (t6 : Tok) (v6 : Value) (n : Nat) (x9 : Off news M D (dictOf [⟨h1, .str (Str.ofString "target") t1, .bytes (idA g) t⟩, ⟨h2, .str (Str.ofString "kind") t2, v2⟩, ⟨h3, .str (Str.ofString "name") t3, v3⟩, ⟨h4, .str (Str.ofString "tagger") t4, v4⟩, ⟨h5, .str (Str.ofString "message") t5, v5⟩, ⟨h6, .str (Str.ofString "signature") t6, v6⟩] n)) : TagT news M goal th
noncomputable def Thing (news : Led) (M : List Addr) (k : Nat) (goal : Option Nat) (th : Value) : Prop :=
  (k ≤ 1 ∧ goal = none) ∨
  (k = 2 ∧ ComT news M goal th) ∨
  (k = 3 ∧ TagT news M goal th)
noncomputable def Row (news : Led) (M : List Addr) (r : Rec) : Prop := ∃ t th, Off news M r.τ (tup2 (.bytes (byK r.k) t) th) ∧ Thing news M r.k r.goal th
theorem Thing.to {news news' : Led} {M S : List Addr} {k : Nat} {goal : Option Nat} {th : Value} (h : Thing news M k goal th) (hS : ∀ x ∈ S, x ∈ M) (kp : ∀ p ∈ news, p.1 ∉ S → p ∈ news') : Thing news' M k goal th := by
  rcases h with h | ⟨e, g, ta, D, e1, e2, m1, h1, t1, t, h2, t2, v2, h3, t3, v3, h4, t4, v4, h5, t5, v5, h6, t6, v6, n, m2⟩ | ⟨e, g, ta, D, e1, e2, m1, h1, t1, t, h2, t2, v2, h3, t3, v3, h4, t4, v4, h5, t5, v5, h6, t6, v6, n, m2⟩
  · exact .inl h
  · exact .inr (.inl ⟨e, g, ta, D, e1, e2, m1.to hS kp, h1, t1, t, h2, t2, v2, h3, t3, v3, h4, t4, v4, h5, t5, v5, h6, t6, v6, n, m2.to hS kp⟩)
  · exact .inr (.inr ⟨e, g, ta, D, e1, e2, m1.to hS kp, h1, t1, t, h2, t2, v2, h3, t3, v3, h4, t4, v4, h5, t5, v5, h6, t6, v6, n, m2.to hS kp⟩)
theorem Row.to {news news' : Led} {M S : List Addr} {r : Rec} (h : Row news M r) (hS : ∀ x ∈ S, x ∈ M) (kp : ∀ p ∈ news, p.1 ∉ S → p ∈ news') : Row news' M r := by
  refine hushL ?_
  intro hG
  obtain ⟨t, th, m, x⟩ := h
  k_unfold
  clear hG
  exact ⟨t, th, m.to hS kp, x.to hS kp⟩
/-- the numbers ascend, what is led to lies ahead -/
structure RecsOk (rs : List Rec) : Prop where
  asc : rs.Pairwise (fun x y => x.n < y.n)
  lt : ∀ r ∈ rs, r.n < 200
  k4 : ∀ r ∈ rs, r.k < 4
  len : rs.length ≤ 20
  goal : ∀ r ∈ rs, ∀ g, r.goal = some g → ∃ r' ∈ rs, r'.n = g ∧ g < r.n ∧ (r.k = 2 → r'.k = 1)
theorem RecsOk.nodup {rs : List Rec} (h : RecsOk rs) (f : Rec → Value) : ((rs.map fun r => (idL r.n, f r)).map (·.1)).Nodup := by
  rw [List.map_map]
  refine List.pairwise_map.mpr (h.asc.imp_of_mem fun {x y} hx hy hlt e => ?_)
  have := idL_inj (Nat.lt_trans (h.lt _ hx) (by decide)) (Nat.lt_trans (h.lt _ hy) (by decide)) e
  exact Nat.ne_of_lt hlt this
theorem RecsOk.val {rs : List Rec} (h : RecsOk rs) (f : Rec → Value) {r : Rec} (hr : r ∈ rs) : valueAt (rs.map fun r => (idL r.n, f r)) (idL r.n) = some (f r) :=
  valueAt_mem (h.nodup f) (List.mem_map.mpr ⟨r, hr, rfl⟩)
noncomputable def KeptIn (w : World) (news : Led) (M : List Addr) (kp : Addr) (rs : List Rec) : Prop := KnIn w news kp (rs.map fun r => (idL r.n, .ref r.τ)) ∧ ∀ r ∈ rs, Row news M r
theorem KeptIn.to {w : World} {news news' : Led} {M S : List Addr} {kp : Addr} {rs : List Rec} (h : KeptIn w news M kp rs) (hk : kp ∉ S) (hS : ∀ x ∈ S, x ∈ M) (kq : ∀ p ∈ news, p.1 ∉ S → p ∈ news') : KeptIn w news' M kp rs :=
  ⟨h.1.to hk kq, fun r hr => (h.2 r hr).to hS kq⟩
/-- the store that is asked -/
structure Sto (w : World) (news : Led) (a : Ads) (rs : List Rec) : Prop where
  fr : Frame9 news a
  ok : RecsOk rs
  kept : KeptIn w news a.muts a.kp rs
theorem Sto.to {w : World} {news news' : Led} {a : Ads} {rs : List Rec} (h : Sto w news a rs) (kq : ∀ p ∈ news, p ∈ news') : Sto w news' a rs :=
  ⟨h.fr.to (S := []) (by simp) (fun p hp _ => kq p hp), h.ok, h.kept.to (S := []) (by simp) (by simp) (fun p hp _ => kq p hp)⟩
theorem item_at {K : Type} [DecidableEq K] {prog : Program} {w : World} {A : Around} {E : Value → Shared → Prop} {s : Shared} {h₀ : Heap} {L d : Addr} {news : Led} {o : Obj} {knd : KeyKind prog w K} {kvs : List (K × Value)} {k : K} {key v : Value} {value slice : PySem.Expr} {Q : Value → Shared → Prop} (N : News h₀ L s.heap news) (hp : (d, o) ∈ news) (hd : o.IsDictOf knd kvs) (hkey : knd.is k key = true) (hl : valueAt kvs k = some v) (h : Q v { s with toks := s.toks + 1 })
    (hs : subscripted slice false (.ref d) key = operate [.ref d, key] (getItem (.ref d) key) := by with_unfolding_all rfl) :
    wpAny (model prog w) A (subscriptTail value slice (.ref d) key) Q E s :=
  have hD := kda_dict N hp hd
  subscriptTail_builtinR hD.typeIs slot_dict_getitem.lookup (wpAny_getItem_of hkey hD.mapOf hl ⟨rfl, h⟩) hs
example : True := by
  (k_with "subscriptTail" => with_reducible refine stopP7 ?_)
  trivial
theorem row_spec (c : Cx) (a : Ads) (rs : List Rec) (r : Rec) (t : Tok) (news : Led) (hS : Sto c.w news a rs) (hr : r ∈ rs) :
   Spec c 441 2 20 [.ref a.st, .bytes (idA r.n) t] news [] (fun v n => n = news ∧ v = .ref r.τ) := by
  refine' enter (binds := [(Str.ofString "self", .ref a.st), (Str.ofString "oid", .bytes (idA r.n) t)]) ?k6 ?k7 ?k9 ?kB ?c2 ?c3 ?c4 ?c5 ?_
  ((case k6 => k_is); (case k7 => k_is); (case k9 => intro s9 X9; first | exact BindsTo.of_eq rfl | exact binds_K X9 rfl (by k_is) rfl rfl rfl); (case kB => exact locs rfl); (case c2 => exact rfl); (case c3 => exact rfl); (case c4 => exact rfl); (case c5 => decide); skip)
  intro dp un gd outer A₀ base g L' h₁ tk s C hd9 hu9; obtain ⟨B, F, X, N, T, hk9⟩ := C; (try dsimp only); k_fold; (try (refine letA (P := fun A9 => wpAny _ A9 _ _ _ _) _ ?_; intro A9))
  refine hushL ?_
  intro hG
  obtain ⟨⟨m1, hq1⟩, hz1, t4, hz2, t5, n, m2, hq2⟩ := hS.fr.st
  k_unfold
  clear hG
  refine hushL ?_
  intro hG
  obtain ⟨⟨o, m3, hd⟩, hrow⟩ := hS.kept
  k_unfold
  clear hG
  have lo := hS.fr.lo a.kp (by simp)
  have hv := hS.ok.val (fun r => .ref r.τ) hr
  k_steps
  refine notin_led (by assumption) m3 hd lo (keyB _ _) ?_
  simp only [idA_toList, hv, Option.isSome_some, Bool.not_true]
  k_steps
  refine item_at (knd := KB c.w) (by assumption) m3 hd (keyB _ _) (by rw [idA_toList]; exact hv) ?_
  exact ⟨_, news, F, N, fun p hp _ => hp, ⟨rfl, rfl⟩, rfl, rfl, rfl⟩
example : True := by
  (k_with "subscriptTail" => with_reducible refine stopP8 ?_)
  trivial
theorem kind_spec (c : Cx) (a : Ads) (rs : List Rec) (r : Rec) (t : Tok) (news : Led) (hS : Sto c.w news a rs) (hr : r ∈ rs) :
   Spec c 448 5 50 [.ref a.st, .bytes (idA r.n) t] news [] (fun v n => n = news ∧ ∃ t, v = .bytes (byK r.k) t) := by
  refine' enter (binds := [(Str.ofString "self", .ref a.st), (Str.ofString "oid", .bytes (idA r.n) t)]) ?k6 ?k7 ?k9 ?kB ?c2 ?c3 ?c4 ?c5 ?_
  ((case k6 => k_is); (case k7 => k_is); (case k9 => intro s9 X9; first | exact BindsTo.of_eq rfl | exact binds_K X9 rfl (by k_is) rfl rfl rfl); (case kB => exact locs rfl); (case c2 => exact rfl); (case c3 => exact rfl); (case c4 => exact rfl); (case c5 => decide); skip)
  intro dp un gd outer A₀ base g L' h₁ tk s C hd9 hu9; obtain ⟨B, F, X, N, T, hk9⟩ := C; (try dsimp only); k_fold; (try (refine letA (P := fun A9 => wpAny _ A9 _ _ _ _) _ ?_; intro A9))
  refine hushL ?_
  intro hG
  obtain ⟨⟨m1, hq1⟩, hz1, t4, hz2, t5, n, m2, hq2⟩ := hS.fr.st
  k_unfold
  clear hG
  refine hushL ?_
  intro hG
  obtain ⟨tK, th, ⟨m3, _⟩, hT⟩ := hS.kept.2 r hr
  k_unfold
  clear hG
  k_steps
  unfold Stop9
  refine' Spec.use (row_spec c a rs r t _ hS hr) ?sB ?sF ?sX ?sN ?sT ?sk ?sd ?su ?_
  ((case sB => assumption); (case sF => assumption); (case sX => assumption); (case sN => assumption); (case sT => assumption); (case sk => first | rfl | assumption); (case sd => (first | (refine' room9 ?rh ?rk; (case rh => assumption); (case rk => rfl)) | (refine' room1 ?rh ?rk; (case rh => assumption); (case rk => rfl)) | omega)); (case su => (first | (refine' room9 ?rh ?rk; (case rh => assumption); (case rk => rfl)) | (refine' room1 ?rh ?rk; (case rh => assumption); (case rk => rfl)) | omega)))
  rintro r n9 h9 t9 ⟨rfl, rfl⟩ hs9 F9 N9 K9
  dsimp only
  k_steps
  unfold Stop9
  refine item_tupleT (l := [.bytes (byK r.k) tK, th]) ⟨_, (N9 _ m3).1, rfl, 0, rfl⟩ (by decide) (by decide) (j := 0) rfl rfl ?_
  exact ⟨_, _, F9, N9, fun p hp _ => hp, ⟨rfl, _, rfl⟩, rfl, rfl, rfl⟩
theorem of_kind_spec (c : Cx) (a : Ads) (rs : List Rec) (r : Rec) (kb : Array UInt8) (t t2 : Tok) (news : Led) (hS : Sto c.w news a rs) (hr : r ∈ rs) (hk : kb = byK r.k) :
   Spec c 462 5 50 [.ref a.st, .bytes (idA r.n) t, .bytes kb t2] news [] (fun v n => n = news ∧ Thing news a.muts r.k r.goal v) := by
  refine' enter (binds := [(Str.ofString "self", .ref a.st), (Str.ofString "oid", .bytes (idA r.n) t), (Str.ofString "kind", .bytes kb t2)]) ?k6 ?k7 ?k9 ?kB ?c2 ?c3 ?c4 ?c5 ?_
  ((case k6 => k_is); (case k7 => k_is); (case k9 => intro s9 X9; first | exact BindsTo.of_eq rfl | exact binds_K X9 rfl (by k_is) rfl rfl rfl); (case kB => exact locs rfl); (case c2 => exact rfl); (case c3 => exact rfl); (case c4 => exact rfl); (case c5 => decide); skip)
  intro dp un gd outer A₀ base g L' h₁ tk s C hd9 hu9; obtain ⟨B, F, X, N, T, hk9⟩ := C; (try dsimp only); k_fold; (try (refine letA (P := fun A9 => wpAny _ A9 _ _ _ _) _ ?_; intro A9))
  refine hushL ?_
  intro hG
  obtain ⟨⟨m1, hq1⟩, hz1, t4, hz2, t5, n, m2, hq2⟩ := hS.fr.st
  k_unfold
  clear hG
  refine hushL ?_
  intro hG
  obtain ⟨tK, th, ⟨m3, _⟩, hT⟩ := hS.kept.2 r hr
  k_unfold
  clear hG
  k_steps
  unfold Stop9
  refine' Spec.use (row_spec c a rs r t _ hS hr) ?sB ?sF ?sX ?sN ?sT ?sk ?sd ?su ?_
  ((case sB => assumption); (case sF => assumption); (case sX => assumption); (case sN => assumption); (case sT => assumption); (case sk => first | rfl | assumption); (case sd => (first | (refine' room9 ?rh ?rk; (case rh => assumption); (case rk => rfl)) | (refine' room1 ?rh ?rk; (case rh => assumption); (case rk => rfl)) | omega)); (case su => (first | (refine' room9 ?rh ?rk; (case rh => assumption); (case rk => rfl)) | (refine' room1 ?rh ?rk; (case rh => assumption); (case rk => rfl)) | omega)))
  rintro r n9 h9 t9 ⟨rfl, rfl⟩ hs9 F9 N9 K9
  dsimp only
  k_steps
  all_goals (try (exfalso; subst hk; rename _ = true => hx; simp at hx; done))
  rename Fr _ _ _ _ => F8
  rename News _ _ _ _ => N8
  exact ⟨_, _, F8, N8, fun p hp _ => hp, ⟨rfl, hT⟩, rfl, rfl, rfl⟩
theorem commit_spec (c : Cx) (a : Ads) (rs : List Rec) (r : Rec) (t : Tok) (news : Led) (hS : Sto c.w news a rs) (hr : r ∈ rs) (hk : r.k = 2) :
   Spec c 483 10 100 [.ref a.st, .bytes (idA r.n) t] news [] (fun v n => n = news ∧ Thing news a.muts r.k r.goal v) := by
  refine' enter (binds := [(Str.ofString "self", .ref a.st), (Str.ofString "oid", .bytes (idA r.n) t)]) ?k6 ?k7 ?k9 ?kB ?c2 ?c3 ?c4 ?c5 ?_
  ((case k6 => k_is); (case k7 => k_is); (case k9 => intro s9 X9; first | exact BindsTo.of_eq rfl | exact binds_K X9 rfl (by k_is) rfl rfl rfl); (case kB => exact locs rfl); (case c2 => exact rfl); (case c3 => exact rfl); (case c4 => exact rfl); (case c5 => decide); skip)
  intro dp un gd outer A₀ base g L' h₁ tk s C hd9 hu9; obtain ⟨B, F, X, N, T, hk9⟩ := C; (try dsimp only); k_fold; (try (refine letA (P := fun A9 => wpAny _ A9 _ _ _ _) _ ?_; intro A9))
  refine hushL ?_
  intro hG
  obtain ⟨⟨m1, hq1⟩, hz1, t4, hz2, t5, n, m2, hq2⟩ := hS.fr.st
  k_unfold
  clear hG
  k_steps
  unfold Stop9
  refine' Spec.use (of_kind_spec c a rs r _ t _ _ hS hr (by rw [hk]; rfl)) ?sB ?sF ?sX ?sN ?sT ?sk ?sd ?su ?_
  ((case sB => assumption); (case sF => assumption); (case sX => assumption); (case sN => assumption); (case sT => assumption); (case sk => first | rfl | assumption); (case sd => (first | (refine' room9 ?rh ?rk; (case rh => assumption); (case rk => rfl)) | (refine' room1 ?rh ?rk; (case rh => assumption); (case rk => rfl)) | omega)); (case su => (first | (refine' room9 ?rh ?rk; (case rh => assumption); (case rk => rfl)) | (refine' room1 ?rh ?rk; (case rh => assumption); (case rk => rfl)) | omega)))
  rintro v n9 h9 t9 ⟨rfl, hT⟩ hs9 F9 N9 K9
  dsimp only
  k_steps
  exact ⟨_, _, F9, N9, fun p hp _ => hp, ⟨rfl, hT⟩, rfl, rfl, rfl⟩
theorem tag_spec (c : Cx) (a : Ads) (rs : List Rec) (r : Rec) (t : Tok) (news : Led) (hS : Sto c.w news a rs) (hr : r ∈ rs) (hk : r.k = 3) :
   Spec c 490 10 100 [.ref a.st, .bytes (idA r.n) t] news [] (fun v n => n = news ∧ Thing news a.muts r.k r.goal v) := by
  refine' enter (binds := [(Str.ofString "self", .ref a.st), (Str.ofString "oid", .bytes (idA r.n) t)]) ?k6 ?k7 ?k9 ?kB ?c2 ?c3 ?c4 ?c5 ?_
  ((case k6 => k_is); (case k7 => k_is); (case k9 => intro s9 X9; first | exact BindsTo.of_eq rfl | exact binds_K X9 rfl (by k_is) rfl rfl rfl); (case kB => exact locs rfl); (case c2 => exact rfl); (case c3 => exact rfl); (case c4 => exact rfl); (case c5 => decide); skip)
  intro dp un gd outer A₀ base g L' h₁ tk s C hd9 hu9; obtain ⟨B, F, X, N, T, hk9⟩ := C; (try dsimp only); k_fold; (try (refine letA (P := fun A9 => wpAny _ A9 _ _ _ _) _ ?_; intro A9))
  refine hushL ?_
  intro hG
  obtain ⟨⟨m1, hq1⟩, hz1, t4, hz2, t5, n, m2, hq2⟩ := hS.fr.st
  k_unfold
  clear hG
  k_steps
  unfold Stop9
  refine' Spec.use (of_kind_spec c a rs r _ t _ _ hS hr (by rw [hk]; rfl)) ?sB ?sF ?sX ?sN ?sT ?sk ?sd ?su ?_
  ((case sB => assumption); (case sF => assumption); (case sX => assumption); (case sN => assumption); (case sT => assumption); (case sk => first | rfl | assumption); (case sd => (first | (refine' room9 ?rh ?rk; (case rh => assumption); (case rk => rfl)) | (refine' room1 ?rh ?rk; (case rh => assumption); (case rk => rfl)) | omega)); (case su => (first | (refine' room9 ?rh ?rk; (case rh => assumption); (case rk => rfl)) | (refine' room1 ?rh ?rk; (case rh => assumption); (case rk => rfl)) | omega)))
  rintro v n9 h9 t9 ⟨rfl, hT⟩ hs9 F9 N9 K9
  dsimp only
  k_steps
  exact ⟨_, _, F9, N9, fun p hp _ => hp, ⟨rfl, hT⟩, rfl, rfl, rfl⟩
end J_S2
example : True := by
  k_with_none
  (k_with "call ref" => refine stop_ref rfl ?_)
  (k_with "eval ListComp" => with_reducible refine stopP0 ?_)
  (k_with "exec For" => with_reducible refine stopP1 ?_)
  (k_with "exec Assign cons ListComp" => with_reducible refine stopP2 ?_)
  (k_with "call type:bytes" => (with_reducible show wpAny _ _ (call (Value.type "bytes") [Value.bytes _ _]) _ _ _; refine bytes_bytes ?_))
  (k_with "subscriptTail" => (with_reducible show wpAny _ _ (subscriptTail _ _ (Value.ref _) (Value.str _ _)) _ _ _; refine' kda_item (knd := PySem.strKind _ _) ?iN ?im ?ih (strKind_is _ _ _ _) ?iv ?_; (case iN => assumption); (case im => assumption); (case ih => assumption); (case iv => with_unfolding_all rfl)))
  (k_with "binaryOp Add bytes bytes" => ((with_reducible show wpAny _ _ (binaryOp Operator.Add (Value.bytes _ _) (Value.bytes _ _)) _ _ _); (refine KBy.add_bytes (by first | assumption | ((try simp only [Array.size_append, List.size_toArray, List.length_cons, List.length_nil]); omega)) ?_); intro _ _))
  (k_with "call builtin:len" => ((with_reducible show wpAny _ _ (call (Value.builtin "len") [Value.bytes _ _]) _ _ _); (refine len_bytes (by first | assumption | omega) ?_)))
  trivial
example {M : Model} {A : Around} {Q : Unit → Shared → Prop} {E : Value → Shared → Prop} {s : Shared} : wpAny M A (pure ()) Q E s ∨ True := by w_top off; first | (left; walk1; done) | (right; trivial)
section J_X5
noncomputable def RaisableO (c : Cx) (E : Value → Shared → Prop) (v : Value) (s₁ : Shared) : Prop :=
  ∃ C a t D, (C = 52 ∨ C = 64 ∨ C = 76) ∧ v = .ref a ∧ (hd.heap_1 c.w.params).In s₁.heap ∧ s₁.heap.get? a = some { excO C t with dict := some D } ∧ E (.ref a) s₁
theorem Raise_own {c : Cx} {A : Around} {E : Value → Shared → Prop} {s : Shared} {env : Env} {e : Expr} {pos : Pos} {Q : Flow → Shared → Prop} (hh : A.handled = none)
    (h : wpAny (model PySem.Challenge.rw_pb0121_01.row.prog c.w) A (eval e env) (RaisableO c E) E s) : wpAny (model PySem.Challenge.rw_pb0121_01.row.prog c.w) A (exec (.Raise (some e) none pos) env) Q E s := by
  show wpAny _ A (do standAt pos; raiseStmt env (some (do let v ← eval e env; standAt pos; pure v)) none) Q E s
  refine wpAny_bind (wpAny_standAt ?_)
  unfold raiseStmt
  refine wpAny_bind (wpAny_bind (wpAny_mono h (fun v s₁ h₁ => wpAny_bind (wpAny_standAt (wpAny_pure ?_))) fun _ _ x => x))
  refine hushL ?_
  intro hGG
  obtain ⟨C, a, t, D, hC, rfl, X, he, hE⟩ := h₁
  k_unfold
  clear hGG
  refine hushL ?_
  intro hG
  obtain ⟨nm, qn, N9, bs, hdct, sn, sub, ab, col, dd, k0, k1, k2, k3, k5, hCo⟩ := excAt_cls X (excAt9_ok _ C hC)
  k_unfold
  clear hG
  have hcB : (Value.ref C :: [Value.ref 39, .type "Exception", .type "BaseException", .type "object"]).contains (.type "BaseException") = true := by
    rw [List.contains_cons, show List.contains [Value.ref 39, .type "Exception", .type "BaseException", .type "object"] (.type "BaseException") = true from by decide, Bool.or_true]
  refine hushL ?_
  intro hG
  obtain ⟨hp, g, d, tk, os⟩ := s₁
  k_unfold
  clear hG
  repeat (first | with_reducible refine wpAny_loadPart_at he ?_ | with_reducible refine wpAny_loadPart_at hCo ?_ | (with_reducible refine wpAny_isSubtype_exc hCo ?_; rw [hcB]) | wp_step)
  exact wpAny_raiseNew_none hh hE
end J_X5
example {M : Model} {A : Around} {Q : Unit → Shared → Prop} {E : Value → Shared → Prop} {s : Shared} : wpAny M A (pure ()) Q E s ∨ True := by w_top off; first | (left; walk1; done) | (right; trivial)
section J_S3
/-- whether an object is of a kind, or leads to one -/
inductive Fits (rs : List Rec) (kd : Nat) : Rec → Bool → Prop
  | hit (r : Rec) (h : r.k = kd) : Fits rs kd r true
  | no (r : Rec) (h : r.k ≠ kd) (h2 : r.goal = none ∨ (kd ≠ 1 ∧ kd ≠ 2)) : Fits rs kd r false
  | go (r : Rec) (h : r.k ≠ kd) (h2 : kd = 1 ∨ kd = 2) (r' : Rec) (hr : r' ∈ rs) (hg : r.goal = some r'.n) (b : Bool) (hb : Fits rs kd r' b) : Fits rs kd r b
theorem empty_kind {K K' : Type} [DecidableEq K] [DecidableEq K'] {prog : Program} {w : World} {k : KeyKind prog w K} {k' : KeyKind prog w K'} {o : Obj} (h : o.IsDictOf k []) : o.IsDictOf k' [] := by
  refine hushL ?_
  intro hG
  obtain ⟨es, ep, h1, h2, h3, h4, h5⟩ := h
  k_unfold
  clear hG
  have : es = #[] := by
    cases es with | mk l => cases l with
    | nil => rfl
    | cons x l => cases h4
  subst this
  exact ⟨_, ep, h1, h2, by intro i hi; simp at hi, by constructor, by simp⟩
example : True := by
  (k_with "exec While" => with_reducible refine stopP9 ?_)
  trivial
theorem eq_bytesV {prog : Program} {w : World} {A : Around} {E : Value → Shared → Prop} {s : Shared} {b c : Array UInt8} {t u : Tok} {v : Bool} {Q : Value → Shared → Prop} (h0 : (b.toList == c.toList) = v) (h : Q (.bool v) s) : wpAny (model prog w) A (compareOp .Eq (.bytes b t) (.bytes c u)) Q E s :=
  eq_bytes (by rw [h0]; exact h)
theorem peel_ways {k kd : Nat} (hk : k < 4) (hkd : kd = 1 ∨ kd = 2) :
    (k = kd ∧ ((byK k).toList == (byK kd).toList) = true) ∨ (k = 3 ∧ k ≠ kd ∧ ((byK k).toList == (byK kd).toList) = false ∧ ((byK k).toList == #[116, 97, 103].toList) = true) ∨
    (k = 2 ∧ kd = 1 ∧ ((byK k).toList == (byK kd).toList) = false ∧ ((byK k).toList == #[116, 97, 103].toList) = false ∧ ((byK k).toList == #[99, 111, 109, 109, 105, 116].toList) = true ∧ ((byK kd).toList == #[116, 114, 101, 101].toList) = true) ∨
    (k ≤ 1 ∧ k ≠ kd ∧ ((byK k).toList == (byK kd).toList) = false ∧ ((byK k).toList == #[116, 97, 103].toList) = false ∧ ((byK k).toList == #[99, 111, 109, 109, 105, 116].toList) = false) := by
  have : k = 0 ∨ k = 1 ∨ k = 2 ∨ k = 3 := by omega
  rcases hkd with rfl | rfl <;> rcases this with rfl | rfl | rfl | rfl <;> decide
example : True := by
  (k_with "compareOp Eq bytes bytes" => first | (refine eq_bytesV (v := true) ?h0 ?_; (case h0 => assumption)) | (refine eq_bytesV (v := false) ?h0 ?_; (case h0 => assumption)))
  (k_with "exec Raise some none" => refine Raise_own rfl ?_)
  trivial
theorem RecsOk.uniq {rs : List Rec} (h : RecsOk rs) {x y : Rec} (hx : x ∈ rs) (hy : y ∈ rs) (e : x.n = y.n) : x = y := by
  have z := h.asc
  clear h
  induction rs with
  | nil => cases hx
  | cons p rs ih =>
    rw [List.pairwise_cons] at z
    rcases List.mem_cons.mp hx with rfl | hx <;> rcases List.mem_cons.mp hy with rfl | hy
    · rfl
    · exfalso; have := z.1 _ hy; omega
    · exfalso; rename x ∈ rs => hq; have := z.1 _ hq; omega
    · exact ih hx hy z.2
theorem Fits.step {rs : List Rec} (h : RecsOk rs) {kd g : Nat} {r : Rec} {b : Bool} (hr : r ∈ rs) (hf : Fits rs kd r b) (hk : r.k ≠ kd) (hkd : kd = 1 ∨ kd = 2) (hg : r.goal = some g) : ∃ r' ∈ rs, r'.n = g ∧ g < r.n ∧ (r.k = 2 → r'.k = 1) ∧ Fits rs kd r' b := by
  refine hushL ?_
  intro hG
  obtain ⟨r1, h1, e1, e2, e3⟩ := h.goal r hr g hg
  k_unfold
  clear hG
  cases hf with
  | hit _ h => exact absurd h hk
  | no _ _ h2 => rcases h2 with h2 | h2; rw [hg] at h2; cases h2; omega
  | go _ _ _ r' hr' hg' b hb =>
    rw [hg] at hg'
    have : r1 = r' := h.uniq h1 hr' (by rw [e1]; exact Option.some.inj hg')
    subst this
    exact ⟨r1, h1, e1, e2, e3, hb⟩
theorem upd_head {news : Led} {d : Addr} {o o' : Obj} (h : ∀ p ∈ news, p.1 < d) : upd ((d, o) :: news) d o' = (d, o') :: news := by
  have e : (upd news d o') = news := by
    unfold upd
    conv => rhs; rw [← List.map_id news]
    refine List.map_congr_left fun p hp => ?_
    rw [if_neg (Nat.ne_of_lt (h p hp))]; rfl
  show (if (d, o).1 = d then (d, o') else (d, o)) :: upd news d o' = _
  rw [e, if_pos rfl]
noncomputable def WEnd (I : Nat → Shared → Prop) (n : Nat) (R : Result → Shared → Prop) (f : Flow) (s₃ : Shared) : Prop := match f with
  | .next | .cont => ∃ m, m < n ∧ I m s₃
  | .brk => R (.ok .next) s₃
  | .ret v => R (.ok (.ret v)) s₃
theorem WEnd.next {I : Nat → Shared → Prop} {n : Nat} {R : Result → Shared → Prop} {s₃ : Shared} (m : Nat) (h : m < n) (hi : I m s₃) : WEnd I n R .next s₃ := ⟨m, h, hi⟩
theorem WEnd.ret {I : Nat → Shared → Prop} {n : Nat} {R : Result → Shared → Prop} {v : Value} {s₃ : Shared} (h : R (.ok (.ret v)) s₃) : WEnd I n R (.ret v) s₃ := h
theorem loopT {prog : Program} {w : World} {A : Around} {R : Result → Shared → Prop} {s : Shared} {test : Expr} {body orelse : List Stmt} {env : Env} (I : Nat → Shared → Prop)
    (turn : ∀ n s, I n s →
      wpAny (model prog w) A (isTrue test env (eval test env)) (fun b s₂ =>
        if b then wpAny (model prog w) A (execs body env) (WEnd I n R) (notedBy (model prog w) A env fun e s' => R (.error e) s') s₂
        else wpAny (model prog w) A (execs orelse env) (fun f s₃ => R (.ok f) s₃) (notedBy (model prog w) A env fun e s' => R (.error e) s') s₂)
        (notedBy (model prog w) A env fun e s' => R (.error e) s') s)
    (n : Nat) (h : I n s) : codeAny (model prog w) A (.whileLoop test body orelse env) R s := codeAny_whileLoop I turn n h
noncomputable def peelM (tv hv rv : Option Value) (M0 : Str → Option Value) (y : Str) : Option Value := if y = Str.ofString "told" then tv else if y = Str.ofString "here" then hv else if y = Str.ofString "is_root" then rv else M0 y
theorem loopQ {prog : Program} {w : World} {A : Around} {R : Result → Shared → Prop} {s : Shared} {test : Expr} {body orelse : List Stmt} {env : Env} (I : Nat → Shared → Prop)
    (turn : ∀ (QT QO : Flow → Shared → Prop) (E' : Value → Shared → Prop) n s, (∀ f s', WEnd I n R f s' → QT f s') → (∀ f s', R (.ok f) s' → QO f s') → (∀ e s', notedBy (model prog w) A env (fun e s' => R (.error e) s') e s' → E' e s') → I n s →
      wpAny (model prog w) A (isTrue test env (eval test env)) (fun b s₂ =>
        if b then wpAny (model prog w) A (execs body env) QT E' s₂ else wpAny (model prog w) A (execs orelse env) QO E' s₂) E' s)
    (n : Nat) (h : I n s) : codeAny (model prog w) A (.whileLoop test body orelse env) R s :=
  codeAny_whileLoop I (fun n s hI => turn _ _ _ n s (fun _ _ h => h) (fun _ _ h => h) (fun _ _ h => h) hI) n h
theorem Thing.com {news : Led} {M : List Addr} {kk : Nat} {goal : Option Nat} {th : Value} {G : Prop} (h : Thing news M kk goal th) (e : kk = 2) (k : ∀ g ta D h1 t1 t h2 t2 v2 h3 t3 v3 h4 t4 v4 h5 t5 v5 h6 t6 v6 n, goal = some g → th = .ref ta → (ta, instObj 310 D) ∈ news → (D, (dictOf [⟨h1, .str (Str.ofString "tree") t1, .bytes (idA g) t⟩, ⟨h2, .str (Str.ofString "parents") t2, v2⟩, ⟨h3, .str (Str.ofString "author") t3, v3⟩, ⟨h4, .str (Str.ofString "committer") t4, v4⟩, ⟨h5, .str (Str.ofString "extra") t5, v5⟩, ⟨h6, .str (Str.ofString "message") t6, v6⟩] n)) ∈ news → G) : G := by
  rcases h with ⟨h, _⟩ | ⟨_, g, ta, D, e1, e2, m1, h1, t1, t, h2, t2, v2, h3, t3, v3, h4, t4, v4, h5, t5, v5, h6, t6, v6, n, m2⟩ | ⟨h, _⟩
  · omega
  · exact k _ _ _ _ _ _ _ _ _ _ _ _ _ _ _ _ _ _ _ _ _ _ e1 e2 m1.1 m2.1
  · omega
theorem Thing.tag {news : Led} {M : List Addr} {kk : Nat} {goal : Option Nat} {th : Value} {G : Prop} (h : Thing news M kk goal th) (e : kk = 3) (k : ∀ g ta D h1 t1 t h2 t2 v2 h3 t3 v3 h4 t4 v4 h5 t5 v5 h6 t6 v6 n, goal = some g → th = .ref ta → (ta, instObj 346 D) ∈ news → (D, (dictOf [⟨h1, .str (Str.ofString "target") t1, .bytes (idA g) t⟩, ⟨h2, .str (Str.ofString "kind") t2, v2⟩, ⟨h3, .str (Str.ofString "name") t3, v3⟩, ⟨h4, .str (Str.ofString "tagger") t4, v4⟩, ⟨h5, .str (Str.ofString "message") t5, v5⟩, ⟨h6, .str (Str.ofString "signature") t6, v6⟩] n)) ∈ news → G) : G := by
  rcases h with ⟨h, _⟩ | ⟨h, _⟩ | ⟨_, g, ta, D, e1, e2, m1, h1, t1, t, h2, t2, v2, h3, t3, v3, h4, t4, v4, h5, t5, v5, h6, t6, v6, n, m2⟩
  · omega
  · omega
  · exact k _ _ _ _ _ _ _ _ _ _ _ _ _ _ _ _ _ _ _ _ _ _ e1 e2 m1.1 m2.1
noncomputable def PeelI (c : Cx) (a : Ads) (rs : List Rec) (r : Rec) (kd : Nat) (kb : Array UInt8) (t t2 : Tok) (news : Led) (b : Bool) (g : Heap) (L' d : Addr) (s : Shared) (n : Nat) (s9 : Shared) : Prop :=
  ∃ r' hh tkk th rt tv kvs o', n = r'.n ∧ r' ∈ rs ∧ Fits rs kd r' b ∧ (rt = false ∨ r'.k = kd) ∧ s9 = { s with heap := hh, toks := tkk } ∧ Fr g L' hh (peelM tv (some (.bytes (idA r'.n) th)) (some (.bool rt)) (fun y => if y = Str.ofString "met" then some (.ref d) else List.lookup y [(Str.ofString "self", Value.ref a.st), (Str.ofString "oid", .bytes (idA r.n) t), (Str.ofString "kind", .bytes kb t2)].reverse)) ∧ News g L' hh ((d, o') :: news) ∧ o'.IsDictOf (KB c.w) kvs ∧ (∀ p ∈ kvs, ∃ j, p.1 = idL j ∧ r'.n < j ∧ j < 256) ∧ kvs.length + r'.n ≤ r.n
theorem peel_spec (c : Cx) (a : Ads) (rs : List Rec) (r : Rec) (kd : Nat) (kb : Array UInt8) (t t2 : Tok) (news : Led) (hS : Sto c.w news a rs) (hr : r ∈ rs) (hkd : kd = 1 ∨ kd = 2) (hkb : kb = byK kd) (b : Bool) (hb : Fits rs kd r b) :
   SpecX c 498 25 300 [.ref a.st, .bytes (idA r.n) t, .bytes kb t2] news [] (fun v n => b = true) (fun C w => C = 52 ∧ b = false) := by
  refine' enterX (binds := [(Str.ofString "self", .ref a.st), (Str.ofString "oid", .bytes (idA r.n) t), (Str.ofString "kind", .bytes kb t2)]) ?k6 ?k7 ?k9 ?kB ?c2 ?c3 ?c4 ?c5 ?_
  ((case k6 => k_is); (case k7 => k_is); (case k9 => intro s9 X9; first | exact BindsTo.of_eq rfl | exact binds_K X9 rfl (by k_is) rfl rfl rfl); (case kB => exact locs rfl); (case c2 => exact rfl); (case c3 => exact rfl); (case c4 => exact rfl); (case c5 => decide); skip)
  intro dp un gd outer A₀ base g L' h₁ tk s C hd9 hu9; obtain ⟨⟨B, F, X, N, T, hk9⟩, XB, TB, DD⟩ := C; (try dsimp only); k_fold; (try (refine letA (P := fun A9 => wpAny _ A9 _ _ _ _) _ ?_; intro A9))
  k_steps
  unfold Stop9
  rename Fr _ _ _ _ => F1
  rename News _ _ _ _ => N1
  rename Obj.IsDictOf (PySem.strKind _ _) _ _ => hd1
  rename ∀ p ∈ news, p.1 < _ => l1
  rename (_ == sysModules) = false => lo
  rename Addr => d
  replace hd1 := empty_kind (k' := KB c.w) hd1
  refine wpAny_While (loopQ (PeelI c a rs r kd kb t t2 news b g L' d s) ?_ r.n ⟨r, _, _, t, false, none, [], _, rfl, hr, hb, .inl rfl, rfl, fr_eq F1 ?_, N1, hd1, (by simp), (by simp)⟩)
  · clear F1 N1 hd1
    intro QT QO E' n s9 hQT hQO hE zy19
    refine hushL ?_
    intro hGG
    obtain ⟨r', hh, tkk, th, rt, tv, kvs, o', rfl, hr', hb', hrt, rfl, F4, N4, hd4, hkv, hlen⟩ := zy19
    k_unfold
    clear hGG
    refine hushL ?_
    intro hG
    obtain ⟨M0, hM0, F4⟩ := fr_map F4
    k_unfold
    clear hG
    unfold peelM at hM0
    subst hM0
    have hS4 : Sto c.w ((d, o') :: news) a rs := hS.to (fun p hp => .tail _ hp)
    refine hushL ?_
    intro hG
    obtain ⟨⟨m1, hq1⟩, hz1, t4, hz2, t5, n, m2, hq2⟩ := hS.fr.st
    k_unfold
    clear hG
    k_steps
    unfold Stop9
    refine' Spec.use (kind_spec c a rs r' _ _ hS4 hr') ?sB ?sF ?sX ?sN ?sT ?sk ?sd ?su ?_
    ((case sB => assumption); (case sF => assumption); (case sX => assumption); (case sN => assumption); (case sT => assumption); (case sk => first | rfl | assumption); (case sd => (first | (refine' room9 ?rh ?rk; (case rh => assumption); (case rk => rfl)) | (refine' room1 ?rh ?rk; (case rh => assumption); (case rk => rfl)) | omega)); (case su => (first | (refine' room9 ?rh ?rk; (case rh => assumption); (case rk => rfl)) | (refine' room1 ?rh ?rk; (case rh => assumption); (case rk => rfl)) | omega)))
    rintro v n9 h9 t9 ⟨rfl, tk9, rfl⟩ hs9 F9 N9 K9
    subst hkb
    have hlo := hS.ok.lt r hr
    rcases peel_ways (hS.ok.k4 r' hr') hkd with ⟨hk, e1⟩ | ⟨hk, hne, e1, e2⟩ | ⟨hk, hkd1, e1, e2, e3, e4⟩ | ⟨hk, hne, e1, e2, e3⟩
    · dsimp only
      k_steps
      rename Fr _ _ _ _ => F8
      rename News _ _ _ _ => N8
      have hb1 : b = true := by
        cases hb' with
        | hit _ _ => rfl
        | no _ h _ => exact absurd hk h
        | go _ h _ _ _ _ _ _ => exact absurd hk h
      refine hQT _ _ (WEnd.ret ?_)
      exact ⟨g, _, _, KtsTurn.refl, F8, N8, fun p hp _ => .tail _ hp, hb1, rfl, rfl, rfl⟩
    · obtain rfl : rt = false := hrt.resolve_right hne
      dsimp only
      k_steps
      have hnk : idL r'.n ∉ kvs.map (·.1) := fun hm => by
        refine hushL ?_
        intro hG
        obtain ⟨p, hp, e⟩ := List.mem_map.mp hm
        k_unfold
        clear hG
        refine hushL ?_
        intro hG
        obtain ⟨j, ej, hj, hj2⟩ := hkv p hp
        k_unfold
        clear hG
        have := idL_inj (by omega) hj2 (e ▸ ej)
        omega
      refine notin_led (by assumption) (.head _) hd4 lo (keyB _ _) ?_
      simp only [idA_toList, valueAt_none hnk, Option.isSome_none, Bool.not_false]
      k_steps
      rename Fr _ _ _ _ => F5
      rename News _ _ _ _ => N5
      refine set_led F5 N5 (.head _) hd4 (keyB _ _) (by omega) (fun h6 o6 F6 N6 hd6 => ?_)
      rw [idA_toList, stored_new hnk] at hd6
      rw [show upd ((d, o') :: news) d o6 = (d, o6) :: news from upd_head l1] at N6
      dsimp only
      clear F5 N5
      k_steps
      unfold Stop9
      have hS6 : Sto c.w ((d, o6) :: news) a rs := hS.to (fun p hp => .tail _ hp)
      refine' Spec.use (tag_spec c a rs r' _ _ hS6 hr' hk) ?sB ?sF ?sX ?sN ?sT ?sk ?sd ?su ?_
      ((case sB => assumption); (case sF => assumption); (case sX => assumption); (case sN => assumption); (case sT => assumption); (case sk => first | rfl | assumption); (case sd => (first | (refine' room9 ?rh ?rk; (case rh => assumption); (case rk => rfl)) | (refine' room1 ?rh ?rk; (case rh => assumption); (case rk => rfl)) | omega)); (case su => (first | (refine' room9 ?rh ?rk; (case rh => assumption); (case rk => rfl)) | (refine' room1 ?rh ?rk; (case rh => assumption); (case rk => rfl)) | omega)))
      rintro v n9 h9 t9 ⟨rfl, hT⟩ hs9 F9 N9 K9
      refine hT.tag hk fun g9 ta D9 z1 z2 z3 z4 z5 z6 z7 z8 z9 y1 y2 y3 y4 y5 y6 y7 y8 y9 y10 e5 eth m3 m4 => ?_
      subst eth
      · refine hushL ?_
        intro hGG
        obtain ⟨r2, hr2, rfl, hlt, _, hf2⟩ := hb'.step hS.ok hr' hne hkd e5
        k_unfold
        clear hGG
        dsimp only
        k_steps
        rename Fr _ _ _ _ => F8
        rename News _ _ _ _ => N8
        refine hQT _ _ (WEnd.next r2.n hlt ?_)
        refine ⟨r2, _, _, z3, false, some (.bytes (byK r'.k) tk9), _, o6, rfl, hr2, hf2, .inl rfl, rfl, fr_eq F8 ?_, N8, hd6, ?_, ?_⟩
        · funext y
          unfold peelM
          by_cases h1 : y = Str.ofString "told"
          · subst h1; rfl
          by_cases h2 : y = Str.ofString "here"
          · subst h2; rfl
          by_cases h3 : y = Str.ofString "is_root"
          · subst h3; rfl
          simp only [h1, h2, h3, if_false]
        · intro p hp
          rcases List.mem_append.mp hp with hp | hp
          · refine hushL ?_
            intro hG
            obtain ⟨j, ej, hj, hj2⟩ := hkv p hp
            k_unfold
            clear hG
            exact ⟨j, ej, by omega, hj2⟩
          · rw [List.mem_singleton.mp hp]
            exact ⟨_, rfl, hlt, by have := hS.ok.lt r' hr'; omega⟩
        · simp only [List.length_append, List.length_cons, List.length_nil]; omega
    · obtain rfl : rt = false := hrt.resolve_right (by omega)
      dsimp only
      k_steps
      unfold Stop9
      refine' Spec.use (commit_spec c a rs r' _ _ hS4 hr' hk) ?sB ?sF ?sX ?sN ?sT ?sk ?sd ?su ?_
      ((case sB => assumption); (case sF => assumption); (case sX => assumption); (case sN => assumption); (case sT => assumption); (case sk => first | rfl | assumption); (case sd => (first | (refine' room9 ?rh ?rk; (case rh => assumption); (case rk => rfl)) | (refine' room1 ?rh ?rk; (case rh => assumption); (case rk => rfl)) | omega)); (case su => (first | (refine' room9 ?rh ?rk; (case rh => assumption); (case rk => rfl)) | (refine' room1 ?rh ?rk; (case rh => assumption); (case rk => rfl)) | omega)))
      rintro v n9 h9 t9 ⟨rfl, hT⟩ hs9 F9 N9 K9
      refine hT.com hk fun g9 ta D9 z1 z2 z3 z4 z5 z6 z7 z8 z9 y1 y2 y3 y4 y5 y6 y7 y8 y9 y10 e5 eth m3 m4 => ?_
      subst eth
      · refine hushL ?_
        intro hGG
        obtain ⟨r2, hr2, rfl, hlt, hk2, hf2⟩ := hb'.step hS.ok hr' (by omega) hkd e5
        k_unfold
        clear hGG
        dsimp only
        k_steps
        rename Fr _ _ _ _ => F8
        rename News _ _ _ _ => N8
        refine hQT _ _ (WEnd.next r2.n hlt ?_)
        refine ⟨r2, _, _, z3, true, some (.bytes (byK r'.k) tk9), _, o', rfl, hr2, hf2, .inr ((hk2 hk).trans hkd1.symm), rfl, fr_eq F8 ?_, N8, hd4, ?_, ?_⟩
        · funext y
          unfold peelM
          by_cases h1 : y = Str.ofString "told"
          · subst h1; rfl
          by_cases h2 : y = Str.ofString "here"
          · subst h2; rfl
          by_cases h3 : y = Str.ofString "is_root"
          · subst h3; rfl
          simp only [h1, h2, h3, if_false]
        · intro p hp
          refine hushL ?_
          intro hG
          obtain ⟨j, ej, hj, hj2⟩ := hkv p hp
          k_unfold
          clear hG
          exact ⟨j, ej, by omega, hj2⟩
        · omega
    · obtain rfl : rt = false := hrt.resolve_right hne
      dsimp only
      k_steps
      unfold Stop9
      refine' Spec.use (hex_spec c _ _ _ (by rw [idA_size]; decide)) ?sB ?sF ?sX ?sN ?sT ?sk ?sd ?su ?_
      ((case sB => assumption); (case sF => assumption); (case sX => assumption); (case sN => assumption); (case sT => assumption); (case sk => first | rfl | assumption); (case sd => (first | (refine' room9 ?rh ?rk; (case rh => assumption); (case rk => rfl)) | (refine' room1 ?rh ?rk; (case rh => assumption); (case rk => rfl)) | omega)); (case su => (first | (refine' room9 ?rh ?rk; (case rh => assumption); (case rk => rfl)) | (refine' room1 ?rh ?rk; (case rh => assumption); (case rk => rfl)) | omega)))
      rintro v n9 h9 t9 ⟨rfl, th, rfl⟩ hs9 F9 N9 K9
      dsimp only
      k_steps
      unfold Stop9
      rename Fr _ _ _ _ => F8
      rename News _ _ _ _ => N8
      refine mk_exc (.inl rfl) B F8 X N8 T rfl (by omega) (by omega) (fun h7 tk7 e7 t7 D7 Md => ?_)
      refine ⟨52, e7, t7, D7, .inl rfl, rfl, fun b o q => Md.keep b o ((X.keeps F8.keep) b o q), Md.at_, ?_⟩
      have hb0 : b = false := by
        refine hushL ?_
        intro hG
        obtain ⟨_, _, _, hT⟩ := hS.kept.2 r' hr'
        k_unfold
        clear hG
        have hg : r'.goal = none := by
          rcases hT with ⟨_, h⟩ | ⟨h, _⟩ | ⟨h, _⟩
          · exact h
          · omega
          · omega
        cases hb' with
        | hit _ h => exact absurd h hne
        | no _ _ _ => rfl
        | go _ _ _ _ _ h _ _ => rw [hg] at h; cases h
      refine hE _ _ ?_
      unfold notedBy
      refine wpAny_mono (leave_XW rfl B F8 N8 Md rfl rfl (E := fun v s'' => OutX base g outer news [] (fun C w => C = 52 ∧ b = false) s v s'') (fun h' es n9 RT up => ?_)) (fun _ _ x => x) (fun _ _ x => x.elim)
      exact ⟨e7, 52, D7, _, _, rfl, ⟨rfl, hb0⟩, fun p hp _ => .tail _ (.tail _ hp), RT, up, rfl, rfl, rfl⟩
  · funext y
    unfold peelM
    by_cases h1 : y = Str.ofString "told"
    · subst h1; rfl
    by_cases h2 : y = Str.ofString "here"
    · subst h2; rfl
    by_cases h3 : y = Str.ofString "is_root"
    · subst h3; rfl
    simp only [h1, h2, h3, if_false]
end J_S3
example : True := by
  k_with_none
  (k_with "call ref" => refine stop_ref rfl ?_)
  (k_with "eval ListComp" => with_reducible refine stopP0 ?_)
  (k_with "exec For" => with_reducible refine stopP1 ?_)
  (k_with "exec Assign cons ListComp" => with_reducible refine stopP2 ?_)
  (k_with "call type:bytes" => (with_reducible show wpAny _ _ (call (Value.type "bytes") [Value.bytes _ _]) _ _ _; refine bytes_bytes ?_))
  (k_with "subscriptTail" => (with_reducible show wpAny _ _ (subscriptTail _ _ (Value.ref _) (Value.str _ _)) _ _ _; refine' kda_item (knd := PySem.strKind _ _) ?iN ?im ?ih (strKind_is _ _ _ _) ?iv ?_; (case iN => assumption); (case im => assumption); (case ih => assumption); (case iv => with_unfolding_all rfl)))
  (k_with "binaryOp Add bytes bytes" => ((with_reducible show wpAny _ _ (binaryOp Operator.Add (Value.bytes _ _) (Value.bytes _ _)) _ _ _); (refine KBy.add_bytes (by first | assumption | ((try simp only [Array.size_append, List.size_toArray, List.length_cons, List.length_nil]); omega)) ?_); intro _ _))
  (k_with "call builtin:len" => ((with_reducible show wpAny _ _ (call (Value.builtin "len") [Value.bytes _ _]) _ _ _); (refine len_bytes (by first | assumption | omega) ?_)))
  trivial
example {M : Model} {A : Around} {Q : Unit → Shared → Prop} {E : Value → Shared → Prop} {s : Shared} : wpAny M A (pure ()) Q E s ∨ True := by w_top off; first | (left; walk1; done) | (right; trivial)
section J_S4
example : True := by
  (k_with "exec Try" => with_reducible refine stopP10 ?_)
  trivial
theorem Sto.cons {w : World} {news : Led} {a : Ads} {rs : List Rec} (h : Sto w news a rs) (p : Addr × Obj) : Sto w (p :: news) a rs := h.to fun _ hp => .tail _ hp
theorem in_bt {prog : Program} {w : World} {A : Around} {E : Value → Shared → Prop} {s : Shared} {l : Addr} {a b x : Array UInt8} {ta tb t : Tok} {Q : Value → Shared → Prop} {v : Bool} (hl : s.heap.IsTuple l #[.bytes a ta, .bytes b tb])
    (hv : (decide (a.toList = x.toList) || decide (b.toList = x.toList)) = v) (h : Q (.bool v) s) : wpAny (model prog w) A (compareOp .In (.bytes x t) (.ref l)) Q E s := by
  refine PySem.SeqAt.in_tupleAt (fun y => match y with | .bytes y _ => decide (y.toList = x.toList) | _ => false) hl (fun y hy => ?_) (by rw [show (#[Value.bytes a ta, .bytes b tb].any fun y => match y with | .bytes y _ => decide (y.toList = x.toList) | _ => false) = v from by rw [← hv]; simp]; exact h)
  have hy' : y = .bytes a ta ∨ y = .bytes b tb := by simpa using hy
  rcases hy' with rfl | rfl <;> exact fun _ _ _ _ hq => eqBool_bytes hq
theorem byK_inj : ∀ (k kd : Fin 4), ((byK k.val).toList == (byK kd.val).toList) = decide (k.val = kd.val) := by decide
theorem Fits.flat {rs : List Rec} {kd : Nat} {r : Rec} {b : Bool} (h : Fits rs kd r b) (hk : kd = 0 ∨ kd = 3) (h4 : r.k < 4) : ((byK r.k).toList == (byK kd).toList) = b := by
  rw [byK_inj ⟨r.k, h4⟩ ⟨kd, by omega⟩]
  cases h with
  | hit _ h => exact decide_eq_true h
  | no _ h _ => exact decide_eq_false h
  | go _ _ h2 => omega
theorem iskind_spec (c : Cx) (a : Ads) (rs : List Rec) (r : Rec) (kd : Nat) (kb : Array UInt8) (t t2 : Tok) (news : Led) (hS : Sto c.w news a rs) (hr : r ∈ rs) (hkd : kd < 4) (hkb : kb = byK kd) (b : Bool) (hb : Fits rs kd r b) :
   SpecX c 519 40 500 [.ref a.st, .bytes (idA r.n) t, .bytes kb t2] news [] (fun v _ => v = .bool b) (fun _ _ => False) := by
  refine' enterX (binds := [(Str.ofString "self", .ref a.st), (Str.ofString "oid", .bytes (idA r.n) t), (Str.ofString "kind", .bytes kb t2)]) ?k6 ?k7 ?k9 ?kB ?c2 ?c3 ?c4 ?c5 ?_
  ((case k6 => k_is); (case k7 => k_is); (case k9 => intro s9 X9; first | exact BindsTo.of_eq rfl | exact binds_K X9 rfl (by k_is) rfl rfl rfl); (case kB => exact locs rfl); (case c2 => exact rfl); (case c3 => exact rfl); (case c4 => exact rfl); (case c5 => decide); skip)
  intro dp un gd outer A₀ base g L' h₁ tk s C hd9 hu9; obtain ⟨⟨B, F, X, N, T, hk9⟩, XB, TB, DD⟩ := C; (try dsimp only); k_fold; (try (refine letA (P := fun A9 => wpAny _ A9 _ _ _ _) _ ?_; intro A9))
  refine hushL ?_
  intro hG
  obtain ⟨⟨m1, hq1⟩, hz1, t4, hz2, t5, n, m2, hq2⟩ := hS.fr.st
  k_unfold
  clear hG
  k_steps
  unfold Stop9
  refine wpAny_Try_except ?_
  k_steps
  rename Fr _ _ _ _ => F1
  rename News _ _ _ _ => N1
  rename ∀ p ∈ news, p.1 < _ => l1
  subst hkb
  have hS1 := fun p => hS.cons p
  have hkc : (kd = 0 ∨ kd = 3) ∨ (kd = 1 ∨ kd = 2) := by omega
  rcases hkc with hk | hk
  · refine in_bt (v := true) ⟨_, (N1 _ (.head _)).1, rfl, 0, rfl⟩ (by rcases hk with rfl | rfl <;> decide) ?_
    k_steps
    unfold Stop9
    refine' Spec.use (kind_spec c a rs r _ _ (hS1 _) hr) ?sB ?sF ?sX ?sN ?sT ?sk ?sd ?su ?_
    ((case sB => assumption); (case sF => assumption); (case sX => assumption); (case sN => assumption); (case sT => assumption); (case sk => first | rfl | assumption); (case sd => (first | (refine' room9 ?rh ?rk; (case rh => assumption); (case rk => rfl)) | (refine' room1 ?rh ?rk; (case rh => assumption); (case rk => rfl)) | omega)); (case su => (first | (refine' room9 ?rh ?rk; (case rh => assumption); (case rk => rfl)) | (refine' room1 ?rh ?rk; (case rh => assumption); (case rk => rfl)) | omega)))
    rintro v n9 h9 t9 ⟨rfl, tk9, rfl⟩ hs9 F9 N9 K9
    dsimp only
    k_steps
    rw [hb.flat hk (hS.ok.k4 r hr)]
    exact ⟨g, _, _, KtsTurn.refl, F9, N9, fun p hp _ => .tail _ hp, rfl, rfl, rfl, rfl⟩
  · refine in_bt (v := false) ⟨_, (N1 _ (.head _)).1, rfl, 0, rfl⟩ (by rcases hk with rfl | rfl <;> decide) ?_
    k_steps
    unfold Stop9
    refine peel_spec c a rs r kd (byK kd) _ _ _ (hS1 _) hr hk rfl b hb _ _ _ _ _ _ _ _ _ _ _ _ _ _ _ _ _ ⟨⟨B, F1, X, N1, T, rfl⟩, XB, TB, DD⟩ (by omega) (by omega) (fun v n9 h9 t9 g9 hR hs9 T9 F9 N9 B9 => ?_) (fun e C D w9 n9 h9 t9 g9 hR hs9 F9 R9 up => ?_)
    · k_steps
      exact ⟨g9, _, n9, T9, F9, N9, fun p hp _ => hs9 _ (.tail _ hp) (by simp), congrArg Value.bool (show true = b from hR.symm), rfl, rfl, rfl⟩
    · obtain ⟨rfl, hb0⟩ := hR
      refine hushL ?_
      intro hG
      obtain ⟨t7, B7, H, R, es, n7, hm⟩ := Ask9.of B F9 DD XB TB (.inl rfl) up R9
      k_unfold
      clear hG
      refine land9 (base := base) rfl rfl R fun h' R' => ?_
      refine handle_yes H R' (by with_unfolding_all rfl) fun h'' R'' => ?_
      refine hushL ?_
      intro hG
      obtain ⟨g', oe, vs, T', F', K', N', _⟩ := ground9 H.K H.F H.DD H.BG H.hl R''
      k_unfold
      clear hG
      k_steps
      exact ⟨g', _, _, T', F', N', fun p hp _ => .tail _ (hs9 _ (.tail _ hp) (by simp)), congrArg Value.bool (show false = b from hb0.symm), rfl, rfl, rfl⟩
end J_S4
example : True := by
  k_with_none
  (k_with "call ref" => refine stop_ref rfl ?_)
  (k_with "eval ListComp" => with_reducible refine stopP0 ?_)
  (k_with "exec For" => with_reducible refine stopP1 ?_)
  (k_with "exec Assign cons ListComp" => with_reducible refine stopP2 ?_)
  (k_with "call type:bytes" => (with_reducible show wpAny _ _ (call (Value.type "bytes") [Value.bytes _ _]) _ _ _; refine bytes_bytes ?_))
  (k_with "subscriptTail" => (with_reducible show wpAny _ _ (subscriptTail _ _ (Value.ref _) (Value.str _ _)) _ _ _; refine' kda_item (knd := PySem.strKind _ _) ?iN ?im ?ih (strKind_is _ _ _ _) ?iv ?_; (case iN => assumption); (case im => assumption); (case ih => assumption); (case iv => with_unfolding_all rfl)))
  (k_with "binaryOp Add bytes bytes" => ((with_reducible show wpAny _ _ (binaryOp Operator.Add (Value.bytes _ _) (Value.bytes _ _)) _ _ _); (refine KBy.add_bytes (by first | assumption | ((try simp only [Array.size_append, List.size_toArray, List.length_cons, List.length_nil]); omega)) ?_); intro _ _))
  (k_with "call builtin:len" => ((with_reducible show wpAny _ _ (call (Value.builtin "len") [Value.bytes _ _]) _ _ _); (refine len_bytes (by first | assumption | omega) ?_)))
  trivial
example {M : Model} {A : Around} {Q : Unit → Shared → Prop} {E : Value → Shared → Prop} {s : Shared} : wpAny M A (pure ()) Q E s ∨ True := by w_top off; first | (left; walk1; done) | (right; trivial)
section J_S5
example : True := by
  (k_with "call builtin:sorted" => with_reducible refine stopP11 ?_)
  trivial
noncomputable def idsL (ts : List (Array UInt8 × Tok)) (c : Nat) : Obj := listOf (ts.map fun p => Value.bytes p.1 p.2).toArray c
theorem order_id {x y : Nat} (h : x < y) (hy : y < 256) : (Builtin.Bytes.order (idL y) (idL x) == .lt) = false := by
  have h1 : ¬ (y.toUInt8 < x.toUInt8) := by
    rw [UInt8.lt_iff_toNat_lt]; simp [Nat.toUInt8]; omega
  simp only [idL, Builtin.Bytes.order, h1, show ¬ ((0 : UInt8) < 0) from by decide, show ¬ ((0 : UInt8) > 0) from by decide, if_false]
  split <;> rfl
theorem RecsOk.ascending {rs : List Rec} (h : RecsOk rs) (f : Rec → Value) (i : Nat) (a b : List UInt8) (x y : Value) (h1 : (rs.map fun r => (idL r.n, f r))[i]? = some (a, x)) (h2 : (rs.map fun r => (idL r.n, f r))[i + 1]? = some (b, y)) : (Builtin.Bytes.order b a == .lt) = false := by
  rw [List.getElem?_map] at h1 h2
  refine hushL ?_
  intro hG
  obtain ⟨r, e1, e2⟩ := Option.map_eq_some_iff.mp h1
  k_unfold
  clear hG
  refine hushL ?_
  intro hG
  obtain ⟨r', e3, e4⟩ := Option.map_eq_some_iff.mp h2
  k_unfold
  clear hG
  cases e2; cases e4
  obtain ⟨j1, q1⟩ := List.getElem?_eq_some_iff.mp e1
  obtain ⟨j2, q2⟩ := List.getElem?_eq_some_iff.mp e3
  have := List.pairwise_iff_getElem.mp h.asc i (i + 1) j1 j2 (by omega)
  rw [q1, q2] at this
  exact order_id this (by have := h.lt r' (List.mem_of_getElem? e3); omega)
theorem idsort (c : Cx) (a : Ads) (rs : List Rec) (news : Led) (hS : Sto c.w news a rs) (h2 : 2 ≤ rs.length) :
   Spec c 434 3 50 [.ref a.st] news [] (fun v n => ∃ D ts k, v = .ref D ∧ n = (D, idsL ts k) :: news ∧ (∀ p ∈ news, p.1 < D) ∧ ts.map (fun p => p.1.toList) = rs.map fun r => idL r.n) := by
  refine' enter (binds := [(Str.ofString "self", .ref a.st)]) ?k6 ?k7 ?k9 ?kB ?c2 ?c3 ?c4 ?c5 ?_
  ((case k6 => k_is); (case k7 => k_is); (case k9 => intro s9 X9; first | exact BindsTo.of_eq rfl | exact binds_K X9 rfl (by k_is) rfl rfl rfl); (case kB => exact locs rfl); (case c2 => exact rfl); (case c3 => exact rfl); (case c4 => exact rfl); (case c5 => decide); skip)
  intro dp un gd outer A₀ base g L' h₁ tk s C hd9 hu9; obtain ⟨B, F, X, N, T, hk9⟩ := C; (try dsimp only); k_fold; (try (refine letA (P := fun A9 => wpAny _ A9 _ _ _ _) _ ?_; intro A9))
  refine hushL ?_
  intro hG
  obtain ⟨⟨m1, hq1⟩, hz1, t4, hz2, t5, n, m2, hq2⟩ := hS.fr.st
  k_unfold
  clear hG
  refine hushL ?_
  intro hG
  obtain ⟨⟨o, m3, hd⟩, hrow⟩ := hS.kept
  k_unfold
  clear hG
  have lo := hS.fr.lo a.kp (by simp)
  k_steps
  unfold Stop9
  refine sorted_dict F N m3 hd lo rfl (by rw [List.length_map]; exact h2) (by rw [List.length_map]; have := hS.ok.len; omega) (hS.ok.ascending _) (fun D h' tk ts k F' N' hlt hts => ?_)
  exact ⟨_, _, F', N', fun p hp _ => .tail _ hp, ⟨D, ts, k, rfl, rfl, hlt, by rw [hts, List.map_map]; rfl⟩, rfl, rfl, rfl⟩
end J_S5
example : True := by
  k_with_none
  (k_with "call ref" => refine stop_ref rfl ?_)
  (k_with "eval ListComp" => with_reducible refine stopP0 ?_)
  (k_with "exec For" => with_reducible refine stopP1 ?_)
  (k_with "exec Assign cons ListComp" => with_reducible refine stopP2 ?_)
  (k_with "call type:bytes" => (with_reducible show wpAny _ _ (call (Value.type "bytes") [Value.bytes _ _]) _ _ _; refine bytes_bytes ?_))
  (k_with "subscriptTail" => (with_reducible show wpAny _ _ (subscriptTail _ _ (Value.ref _) (Value.str _ _)) _ _ _; refine' kda_item (knd := PySem.strKind _ _) ?iN ?im ?ih (strKind_is _ _ _ _) ?iv ?_; (case iN => assumption); (case im => assumption); (case ih => assumption); (case iv => with_unfolding_all rfl)))
  (k_with "binaryOp Add bytes bytes" => ((with_reducible show wpAny _ _ (binaryOp Operator.Add (Value.bytes _ _) (Value.bytes _ _)) _ _ _); (refine KBy.add_bytes (by first | assumption | ((try simp only [Array.size_append, List.size_toArray, List.length_cons, List.length_nil]); omega)) ?_); intro _ _))
  (k_with "call builtin:len" => ((with_reducible show wpAny _ _ (call (Value.builtin "len") [Value.bytes _ _]) _ _ _); (refine len_bytes (by first | assumption | omega) ?_)))
  trivial
example {M : Model} {A : Around} {Q : Unit → Shared → Prop} {E : Value → Shared → Prop} {s : Shared} : wpAny M A (pure ()) Q E s ∨ True := by w_top off; first | (left; walk1; done) | (right; trivial)
section J_S6
example : True := by
  (k_with "call builtin:len" => ((with_reducible show wpAny _ _ (call (Value.builtin "len") [Value.str _ _]) _ _ _); (refine len_str (by show ¬ (((_ : Nat) : Int) ≥ 2 ^ 63); omega) ?_)))
  (k_with "call builtin:str.lower" => with_reducible refine stopP12 ?_)
  (k_with "compareOp NotIn str str" => with_reducible refine stopP13 ?_)
  trivial
noncomputable def hexOk (c : Nat) : Bool := (48 ≤ c && c ≤ 57) || (97 ≤ c && c ≤ 102)
noncomputable def hexG : Str := ⟨#[48, 49, 50, 51, 52, 53, 54, 55, 56, 57, 97, 98, 99, 100, 101, 102]⟩
theorem hex_has : ∀ c : Fin 128, Txt.contains hexG ⟨#[c.val]⟩ = hexOk c.val := by decide +kernel
theorem lo1_lt {c : Nat} (h : c < 128) : lo1 c < 128 := by unfold lo1; split <;> omega
noncomputable def lowS (x : Str) : Str := ⟨x.cps.map lo1⟩
noncomputable def preS (x : Str) : Option Str := if 4 ≤ x.cps.size ∧ x.cps.size ≤ 8 ∧ (lowS x).cps.toList.all hexOk = true then some (lowS x) else none
noncomputable def IsPre (o : Option Str) (v : Value) : Prop := match o with
  | none => v = .none
  | some y => ∃ t, v = .str y t
theorem prefix_spec (c : Cx) (x : Str) (t t2 : Tok) (news : Led) (hx : x.cps.size ≤ 9) (hA : ∀ k ∈ x.cps.toList, k < 128) :
   Spec c 364 3 50 [.str x t, .int 4 t2] news [] (fun v n => n = news ∧ IsPre (preS x) v) := by
  refine' enter (binds := [(Str.ofString "text", .str x t), (Str.ofString "size", .int 4 t2)]) ?k6 ?k7 ?k9 ?kB ?c2 ?c3 ?c4 ?c5 ?_
  ((case k6 => k_is); (case k7 => k_is); (case k9 => intro s9 X9; first | exact BindsTo.of_eq rfl | exact binds_K X9 rfl (by k_is) rfl rfl rfl); (case kB => exact locs rfl); (case c2 => exact rfl); (case c3 => exact rfl); (case c4 => exact rfl); (case c5 => decide); skip)
  intro dp un gd outer A₀ base g L' h₁ tk s C hd9 hu9; obtain ⟨B, F, X, N, T, hk9⟩ := C; (try dsimp only); k_fold; (try (refine letA (P := fun A9 => wpAny _ A9 _ _ _ _) _ ?_; intro A9))
  have hxl : x.length ≤ 9 := hx
  k_steps
  · unfold Stop9
    refine SCL.lower (by omega) (fun _ => ?_)
    rw [lower_ascii hA]
    k_steps
    rename Fr _ _ _ _ => F2
    rename News _ _ _ _ => N2
    unfold Stop9
    refine For_invVF F2 rfl rfl ?_
    refine nameX_L F2 rfl ?_
    refine hushL ?_
    intro hG
    obtain ⟨M0, hM0, F2⟩ := fr_map F2
    k_unfold
    clear hG
    refine' for_goI (fun i m nx => nx = news ∧ (∀ j, j < i → (((lowS x).cps[j]?).map hexOk).getD true = true) ∧ ∀ z, z ≠ Str.ofString "sign" → m z = M0 z) ?fh ?fs ?fL ?fF ?fN ⟨rfl, fun j hj => absurd hj (Nat.not_lt_zero _), fun _ _ => rfl⟩ ?_ ?_
    case fF => exact F2
    case fN => exact N2
    case fh => rfl
    case fs => exact src_str (lowS x) _
    case fL => intro hm; cases hm
    · rintro I i v m₁ nx h tk own hi hv ⟨rfl, hj, hm⟩ hnI hown F3 N3
      clear F2 N2
      rw [map_none hm, hM0] at F3
      dsimp only at F3 N3
      refine hushL ?_
      intro hGG
      obtain ⟨ch, u, hc, rfl⟩ := hv
      k_unfold
      clear hGG
      refine stopEnd ?_
      k_steps
      unfold Stop9
      have hch : ch < 128 := by
        have : ch ∈ x.cps.map lo1 := by
          have := Array.mem_of_getElem? hc
          exact this
        obtain ⟨k, hk, rfl⟩ := Array.mem_map.mp this
        exact lo1_lt (hA k (by simpa using hk))
      refine SB.notContains ?_
      rw [show Str.ofString "0123456789abcdef" = hexG from by decide +kernel, hex_has ⟨ch, hch⟩]
      have hbad : hexOk ch = false → preS x = none := fun h0 => by
        unfold preS
        rw [if_neg]
        intro zz3
        refine hushL ?_
        intro hG
        obtain ⟨_, _, h3⟩ := zz3
        k_unfold
        clear hG
        have := List.all_eq_true.mp h3 ch (by have := Array.mem_of_getElem? hc; simpa using this)
        rw [h0] at this; cases this
      k_steps
      · rename hexOk _ = true => hx0
        refine unstop ⟨_, _, _, _, _, rfl, F3, N3, fun p hp => List.mem_append_left _ hp, fun p hp => List.mem_append_right _ hp, hnI, rfl, ?_, fun z hz => by simp only [if_neg hz, hM0]⟩
        intro j hj2
        by_cases hji : j = i
        · subst hji
          rw [hc]; exact hx0
        · exact hj j (by omega)
      · rename hexOk _ = false => hx0
        refine unstop ⟨_, nx, F3, fun p hp => N3 p (List.mem_append_left _ hp), fun p hp _ => hp, ⟨rfl, ?_⟩, rfl, rfl, rfl⟩
        rw [hbad hx0]; rfl
    · rintro m₁ nx h tk ⟨rfl, hj, hm⟩ F3 N3
      clear F2 N2
      rw [← done_none hm, hM0] at F3
      dsimp only at F3 N3
      k_steps
      refine ⟨_, nx, F3, N3, fun p hp _ => hp, ⟨rfl, ?_⟩, rfl, rfl, rfl⟩
      unfold preS
      rw [if_pos]
      · exact ⟨_, rfl⟩
      · refine ⟨by show 4 ≤ x.length; omega, by show x.length ≤ 8; omega, List.all_eq_true.mpr fun k hk => ?_⟩
        obtain ⟨j, hjl, rfl⟩ := List.getElem_of_mem hk
        have := hj j (by simpa using hjl)
        rw [Array.getElem?_eq_getElem (by simpa using hjl)] at this
        simpa using this
  · exact ⟨_, news, F, N, fun p hp _ => hp, ⟨rfl, by unfold preS; rw [if_neg (by show ¬ (4 ≤ x.length ∧ x.length ≤ 8 ∧ _); omega)]; rfl⟩, rfl, rfl, rfl⟩
  · exact ⟨_, news, F, N, fun p hp _ => hp, ⟨rfl, by unfold preS; rw [if_neg (by show ¬ (4 ≤ x.length ∧ x.length ≤ 8 ∧ _); omega)]; rfl⟩, rfl, rfl, rfl⟩
end J_S6
example : True := by
  k_with_none
  (k_with "call ref" => refine stop_ref rfl ?_)
  (k_with "eval ListComp" => with_reducible refine stopP0 ?_)
  (k_with "exec For" => with_reducible refine stopP1 ?_)
  (k_with "exec Assign cons ListComp" => with_reducible refine stopP2 ?_)
  (k_with "call type:bytes" => (with_reducible show wpAny _ _ (call (Value.type "bytes") [Value.bytes _ _]) _ _ _; refine bytes_bytes ?_))
  (k_with "subscriptTail" => (with_reducible show wpAny _ _ (subscriptTail _ _ (Value.ref _) (Value.str _ _)) _ _ _; refine' kda_item (knd := PySem.strKind _ _) ?iN ?im ?ih (strKind_is _ _ _ _) ?iv ?_; (case iN => assumption); (case im => assumption); (case ih => assumption); (case iv => with_unfolding_all rfl)))
  (k_with "binaryOp Add bytes bytes" => ((with_reducible show wpAny _ _ (binaryOp Operator.Add (Value.bytes _ _) (Value.bytes _ _)) _ _ _); (refine KBy.add_bytes (by first | assumption | ((try simp only [Array.size_append, List.size_toArray, List.length_cons, List.length_nil]); omega)) ?_); intro _ _))
  (k_with "call builtin:len" => ((with_reducible show wpAny _ _ (call (Value.builtin "len") [Value.bytes _ _]) _ _ _); (refine len_bytes (by first | assumption | omega) ?_)))
  trivial
example {M : Model} {A : Around} {Q : Unit → Shared → Prop} {E : Value → Shared → Prop} {s : Shared} : wpAny M A (pure ()) Q E s ∨ True := by w_top off; first | (left; walk1; done) | (right; trivial)
section J_S7
noncomputable def preB (y : Str) (b : Array UInt8) : Bool := Txt.startswith (hexS b) y
noncomputable def preV (y : Str) : Value → Bool
  | .bytes b _ => preB y b
  | _ => false
theorem testsOf_one {prog : Program} {w : World} {A : Around} {E : Value → Shared → Prop} {s : Shared} {c : Expr} {env : Env} {Q : Bool → Shared → Prop} (h : wpAny (model prog w) A (isTrue c env (eval c env)) Q E s) : wpAny (model prog w) A (testsOf [c] env) Q E s := by
  unfold testsOf
  rw [List.forIn_cons]
  refine wpAny_bind ?_
  rw [if_pos rfl]
  refine wpAny_bind (wpAny_mono h (fun ok s' hq => wpAny_pure ?_) fun _ _ x => x)
  dsimp only
  rw [List.forIn_nil]
  exact wpAny_pure hq
theorem ids_item {ts : List (Array UInt8 × Tok)} {rs : List Rec} {i : Nat} {v : Value} (hts : ts.map (fun p => p.1.toList) = rs.map fun r => idL r.n) (hv : (ts.map fun p => Value.bytes p.1 p.2).toArray[i]? = some v) : ∃ b t, v = Value.bytes b t ∧ b.size = 4 := by
  simp only [List.getElem?_toArray, List.getElem?_map] at hv
  obtain ⟨p, hp, rfl⟩ := Option.map_eq_some_iff.mp hv
  refine ⟨_, _, rfl, ?_⟩
  have : p.1.toList ∈ rs.map fun r => idL r.n := hts ▸ List.mem_map.mpr ⟨p, List.mem_of_getElem? hp, rfl⟩
  refine hushL ?_
  intro hG
  obtain ⟨r, _, e⟩ := List.mem_map.mp this
  k_unfold
  clear hG
  have := congrArg List.length e
  simpa [idL] using this.symm
noncomputable def byL : Value → List UInt8
  | .bytes b _ => b.toList
  | _ => []
theorem paired_bytesT {us ys : List Value} (r : Paired (fun v z => ∃ b t t', v = Value.bytes b t ∧ z = Value.bytes b t') us ys) : ∃ ts' : List (Array UInt8 × Tok), ys = (ts'.map fun p => Value.bytes p.1 p.2) ∧ ts'.map (fun p => p.1.toList) = us.map byL := by
  induction r with
  | nil => exact ⟨[], rfl, rfl⟩
  | cons h r ih =>
    refine hushL ?_
    intro hGG
    obtain ⟨b, t, t', e1, e2⟩ := h
    k_unfold
    clear hGG
    obtain ⟨ts', h1, h2⟩ := ih
    exact ⟨(b, t') :: ts', by rw [e2, h1]; rfl, by rw [e1]; simp [byL, h2]⟩
theorem prefixed_spec (c : Cx) (a : Ads) (rs : List Rec) (y : Str) (t : Tok) (news : Led) (hS : Sto c.w news a rs) (h2 : 2 ≤ rs.length) :
   Spec c 524 10 200 [.ref a.st, .str y t] news [] (fun v n => ∃ D ts k, v = .ref D ∧ n = (D, idsL ts k) :: news ∧ ts.map (fun p => p.1.toList) = (rs.filter fun r => preB y (idA r.n)).map fun r => idL r.n) := by
  refine' enterC (binds := [(Str.ofString "self", .ref a.st), (Str.ofString "small", .str y t)]) ?k6 ?k7 ?k9 ?kB ?kD ?c2 ?c3 ?c4 ?_
  ((case k6 => k_is); (case k7 => k_is); (case k9 => intro s9 X9; first | exact BindsTo.of_eq rfl | exact binds_K X9 rfl (by k_is) rfl rfl rfl); (case kB => exact rfl); (case kD => decide +kernel); (case c2 => exact rfl); (case c3 => exact rfl); (case c4 => exact rfl); skip)
  intro dp un gd outer A₀ base g L' h₁ tk s cells C hd9 hu9 Y hlt; obtain ⟨B, F, X, N, T, hk9⟩ := C
  refine hushL ?_
  intro hG
  obtain ⟨⟨m1, hq1⟩, hz1, t4, hz2, t5, n, m2, hq2⟩ := hS.fr.st
  k_unfold
  clear hG
  obtain ⟨o1, hE, d1⟩ := CellsAre.one Y; subst hE; clear Y; (try simp only [List.cons_append, List.nil_append] at N); (try dsimp only); k_fold; (try (refine letA (P := fun A9 => wpAny _ A9 _ _ _ _) _ ?_; intro A9))
  k_steps
  unfold Stop9
  have hS1 := hS.cons (L' + 1, o1)
  refine' comp_val (h₀ := g) (preV y) (fun v z => ∃ b t t', v = Value.bytes b t ∧ z = Value.bytes b t') ?hh ?h0 ?h1 ?h2 ?h3 ?h4 ?h9 ?h5
  case hh => rfl
  case h0 => rfl
  case h1 => decide
  case h2 => rfl
  case h3 => decide
  case h4 => rfl
  case h5 => intro _; rfl
  k_steps
  unfold Stop9
  refine' Spec.use (idsort c a rs _ hS1 h2) ?sB ?sF ?sX ?sN ?sT ?sk ?sd ?su ?_
  ((case sB => assumption); (case sF => assumption); (case sX => assumption); (case sN => assumption); (case sT => assumption); (case sk => first | rfl | assumption); (case sd => (first | (refine' room9 ?rh ?rk; (case rh => assumption); (case rk => rfl)) | (refine' room1 ?rh ?rk; (case rh => assumption); (case rk => rfl)) | omega)); (case su => (first | (refine' room9 ?rh ?rk; (case rh => assumption); (case rk => rfl)) | (refine' room1 ?rh ?rk; (case rh => assumption); (case rk => rfl)) | omega)))
  intro v n9 h9 t9 zy20 hs9 F9 N9 K9
  refine hushL ?_
  intro hGG
  obtain ⟨D0, ts, k0, rfl, rfl, hlt0, hts⟩ := zy20
  k_unfold
  clear hGG
  refine ⟨_, _, _, _, _, F9, N9, src_list (N9.isList (.head _)), ?_, ?_, ?_, ?_⟩
  · have hq := congrArg List.length hts; have := hS.ok.len; simp only [List.length_map] at hq; simp only [List.size_toArray, List.length_map]; omega
  · rintro C i v s₃ m₃ hv hn hm hC F3 N3 hk3
    refine stopEnd ?_
    refine testsOf_one ?_
    refine hushL ?_
    intro hGG
    obtain ⟨b9, t9, rfl, hb9⟩ := ids_item hts hv
    k_unfold
    clear hGG
    k_steps
    unfold Stop9
    dsimp only at F3 N3
    have hn3 := hn
    refine' Spec.use (hex_spec c b9 t9 _ (by omega)) ?sB ?sF ?sX ?sN ?sT ?sk ?sd ?su ?_
    ((case sB => assumption); (case sF => assumption); (case sX => assumption); (case sN => assumption); (case sT => assumption); (case sk => first | rfl | assumption); (case sd => (first | (refine' room9 ?rh ?rk; (case rh => assumption); (case rk => rfl)) | (refine' room1 ?rh ?rk; (case rh => assumption); (case rk => rfl)) | omega)); (case su => (first | (refine' room9 ?rh ?rk; (case rh => assumption); (case rk => rfl)) | (refine' room1 ?rh ?rk; (case rh => assumption); (case rk => rfl)) | omega)))
    rintro v n8 h8 t8 ⟨rfl, th, rfl⟩ hs8 F8 N8 K8
    have hn8 : h8.Ns C m₃ := by
      refine hushL ?_
      intro hG
      obtain ⟨o9, es9, ep9, q1, q2⟩ := hn
      k_unfold
      clear hG
      exact ⟨o9, es9, ep9, K8 _ _ q1 (by simp), q2⟩
    k_steps
    exact unstop ⟨rfl, h8, t8, rfl, fun b o e => K8 b o e (by simp)⟩
  · intro C i v s₃ m₃ zz4 hn hm hC F3 N3 hk3
    refine hushL ?_
    intro hG
    obtain ⟨hv, hv2⟩ := zz4
    k_unfold
    clear hG
    refine stopEnd ?_
    k_steps
    refine hushL ?_
    intro hGG
    obtain ⟨b9, t9, rfl, hb9⟩ := ids_item hts hv
    k_unfold
    clear hGG
    exact unstop ⟨⟨_, _, _, rfl, rfl⟩, _, _, rfl, fun _ _ e => e⟩
  · intro D h' tk ys ep vs F2 N2 hD hL hlen hP hF hk
    have hvs : vs = ts.map fun p => Value.bytes p.1 p.2 := by
      refine List.ext_getElem? fun j => ?_
      by_cases hj : j < vs.length
      · rw [← List.getElem?_toArray (xs := ts.map _), hP j vs[j] (List.getElem?_eq_getElem hj), List.getElem?_eq_getElem hj]
      · rw [List.getElem?_eq_none (by omega), List.getElem?_eq_none (by rw [hlen] at hj; simpa using hj)]
    refine hushL ?_
    intro hG
    obtain ⟨ts', e1, e2⟩ := paired_bytesT hF
    k_unfold
    clear hG
    dsimp only at F2 N2
    exact ⟨_, (D, idsL ts' ep) :: news, F2, fun p hp => by
      have e3 : idsL ts' ep = listOf ys ep := by unfold idsL; rw [← e1]
      rw [e3] at hp
      rcases List.mem_cons.mp hp with rfl | hp
      · exact N2 _ (.head _)
      · exact N2 _ (.tail _ (.tail _ (.tail _ hp))), fun p hp _ => .tail _ hp, ⟨D, ts', ep, rfl, rfl, by
      rw [e2, hvs, List.filter_map, List.map_map, show (fun r : Rec => preB y (idA r.n)) = (fun l : List UInt8 => preB y l.toArray) ∘ (fun r : Rec => idL r.n) from rfl, ← List.filter_map, ← hts, List.filter_map]
      rfl⟩, rfl, rfl, rfl⟩
end J_S7
example {M : Model} {A : Around} {Q : Unit → Shared → Prop} {E : Value → Shared → Prop} {s : Shared} : wpAny M A (pure ()) Q E s ∨ True := by w_top off; first | (left; walk1; done) | (right; trivial)
section J_C9
/-- between the turns of a comprehension -/
inductive CompI (items : Array Value) (p : Value → Bool) (G : Heap → Prop) (L : Addr) (m : Str → Option Value) (C D It l : Addr) (news : Led) (s₁ : Shared) (k : Nat) (s' : Shared) : Prop
  | mk (j : Nat) (g' h' : Heap) (tk : Nat) (oC oI : Obj) (m₃ : Str → Option Value) (epj : Nat) (e : k = items.size + 1 - j) (hj : j ≤ items.size) (es : s' = { s₁ with heap := h', toks := tk }) (hG : G g') (F : Fr g' L h' m)
    (N : News g' L h' ((C, oC) :: (D, listOf ((items.toList.take j).filter p).toArray epj) :: (It, oI) :: news)) (hn : h'.Ns C m₃) (hit : h'.IsListIter It l j) : CompI items p G L m C D It l news s₁ k s'
/-- what a comprehension's source gives -/
inductive CompS (prog : Program) (w : World) (A : Around) (env : Env) (c : Expr) (x y : Str) (scope : Scope) (cl : List (Str × Addr)) (Q : Flow → Shared → Prop) (G : Heap → Prop) (p : Value → Bool) (xv : Value) (s₁ : Shared) : Prop
  | mk (g : Heap) (m : Str → Option Value) (news : Led) (l : Addr) (items : Array Value) (ep : Nat) (e : xv = .ref l) (hG : G g) (F : Fr g env.locals s₁.heap m) (N : News g env.locals s₁.heap news) (hl : (l, listOf items ep) ∈ news) (hsz : items.size ≤ 1000)
      (test : ∀ v g' h' tk C oC m₃ D oD I oI, v ∈ items.toList → G g' → Fr g' env.locals h' m → News g' env.locals h' ((C, oC) :: (D, oD) :: (I, oI) :: news) → h'.Ns C m₃ → m₃ x = some v →
        wpAny (model prog w) A (isTrue c (compEnvC scope cl C env) (eval c (compEnvC scope cl C env))) (fun ok s' => ok = p v ∧ ∃ g'' h'' tk'', s' = { s₁ with heap := h'', toks := tk'' } ∧ G g'' ∧ Fr g'' env.locals h'' m ∧ News g'' env.locals h'' ((C, oC) :: (D, oD) :: (I, oI) :: news)) (fun _ _ => False) { s₁ with heap := h', toks := tk })
      (fin : ∀ g' D h' tk ep', G g' → Fr g' env.locals h' (fun z => if z = y then some (.ref D) else m z) → News g' env.locals h' ((D, listOf (items.toList.filter p).toArray ep') :: news) → Q .next { s₁ with heap := h', toks := tk }) : CompS prog w A env c x y scope cl Q G p xv s₁
/-- a comprehension that is bound to a name and keeps some of its items, where the test may turn the ground -/
theorem compG_as {prog : Program} {w : World} {A : Around} {E : Value → Shared → Prop} {env : Env} {s : Shared} {c iter : Expr} {x y : Str} {px py pe : Pos} {scope : Scope} {cl : List (Str × Addr)} {pos spos : Pos} {Q : Flow → Shared → Prop} (G : Heap → Prop) (p : Value → Bool) (hh : A.handled = none)
    (hsw : swapsWith (.ListComp (.Name x pe) [⟨.Name x px, iter, [c], 0⟩] scope pos) (some (.Name y py)) spos.line env = pure true)
    (hclos : closureFor scope env = pure cl) (hcell : ∀ z ∈ scope.names, z.2 ≠ .cell) (hkind : scope.kind = .function)
    (hnames : ∀ z ∈ scope.names, z.2 = .local → scope.names.lookup z.1 = some .local) (hx : scope.names.lookup x = some .local) (hx9 : (x == ("__debug__" : Str)) = false)
    (hy : env.kindOf y = some .local) (hp : (env.scope.kind == .class || (env.scope.kind == .module && env.locals != env.globals)) = false)
    (h : wpAny (model prog w) A (eval iter env) (CompS prog w A env c x y scope cl Q G p) E s)
    (hs : ∀ x, foldedSetIterable iter env x = pure x := by intro _; rfl) :
    wpAny (model prog w) A (exec (.Assign [.Name y py] (.ListComp (.Name x pe) [⟨.Name x px, iter, [c], 0⟩] scope pos) spos) env) Q E s := by
  rw [exec_Assign_Name_used _ _ _ _ hsw]
  refine wpAny_bind (wpAny_standAt (wpAny_bind ?_))
  show wpAny _ A (do let _ ← comprehension (.ListComp (.Name x pe) [⟨.Name x px, iter, [c], 0⟩] scope pos) scope env _ (newList []) false (eval iter env) (some (assign (.Name y py) env))) _ _ s
  refine wpAny_bind (wpAny_mono (wpAny_comprehension_free (use := some (assign (.Name y py) env)) (Q := fun _ s' => Q .next s') rfl hs hclos hkind hnames (wpAny_mono h (fun xv s₁ h₁ => ?_) fun _ _ e => e)) (fun _ s' hq => wpAny_pure (wpAny_pure hq)) fun _ _ e => e)
  refine hushL ?_
  intro hGG
  obtain ⟨g, m, news, l, items, ep, rfl, hG, F, N, hl, hsz, test, fin⟩ := h₁
  k_unfold
  clear hGG
  refine wpAny_pyIter_list (N.isList hl) ?_
  refine hushL ?_
  intro hG
  obtain ⟨F2, N2, l2⟩ := fresh_led F N (Heap.get?_push_size _ rfl) (fun b o e => Heap.get?_push_of_some ({ cls := .type "list_iterator", data := .fields #[.ref l, .int 0 0] } : Obj) e)
  k_unfold
  clear hG
  have hit0 : Heap.IsListIter _ s₁.heap.objs.size l 0 := ⟨_, (N2 _ (.head _)).1, rfl, rfl⟩
  have hlI : l ≠ s₁.heap.objs.size := Nat.ne_of_lt (l2 _ hl)
  generalize hI : s₁.heap.objs.size = It at *
  generalize s₁.heap.push { cls := .type "list_iterator", data := .fields #[.ref l, .int 0 0] } = H2 at *
  generalize ({ cls := Value.type "list_iterator", data := Data.fields #[.ref l, .int 0 0] } : Obj) = oI0 at *
  refine wpAny_newObj_type (wpAny_newFunctionEnv hcell (by intro y hy; simp at hy) (fun h₁ hns₁ hsb₁ => ?_) hkind)
  dsimp only at hns₁ hsb₁ ⊢
  refine hushL ?_
  intro hG
  obtain ⟨F3, N3, l3⟩ := fresh_led F2 N2 (Heap.get?_push_size _ rfl) (fun b o e => Heap.get?_push_of_some (listOf #[] 0) e)
  k_unfold
  clear hG
  obtain ⟨oC0, hoC0⟩ : ∃ o, h₁.get? (H2.push (listOf #[] 0)).objs.size = some o := by
    refine hushL ?_
    intro hG
    obtain ⟨o, _, _, e, _⟩ := hns₁
    k_unfold
    clear hG
    exact ⟨o, e⟩
  refine hushL ?_
  intro hG
  obtain ⟨F4, N4, l4⟩ := fresh_led F3 N3 hoC0 (fun b o e => hsb₁.extBut b o (Nat.ne_of_lt (Heap.lt_size e)) (Heap.get?_push_of_some _ e))
  k_unfold
  clear hG
  replace hns₁ : h₁.Ns (H2.push (listOf #[] 0)).objs.size fun x => List.lookup x [].reverse := hns₁
  have hit1 : h₁.IsListIter It l 0 := by
    refine hushL ?_
    intro hG
    obtain ⟨o, e, r⟩ := hit0
    k_unfold
    clear hG
    exact ⟨o, hsb₁.extBut _ _ (Nat.ne_of_lt (Heap.lt_size (Heap.get?_push_of_some (listOf #[] 0) e))) (Heap.get?_push_of_some _ (Heap.get?_push_of_some _ e)), r⟩
  have hR : ∀ RR : Value → Addr → Result → Shared → Prop, (∀ D C, D = H2.objs.size → C = (H2.push (listOf #[] 0)).objs.size → codeAny (model prog w) A (.compLoop (.ListComp (.Name x pe) [⟨.Name x px, iter, [c], 0⟩] scope pos) 0 (.ref It) (.ref D) (compEnvC scope cl C env)) (RR (.ref D) C) { s₁ with heap := h₁, toks := s₁.toks + ([] : List (Str × Value)).length }) →
      codeAny (model prog w) A (.compStart (.ListComp (.Name x pe) [⟨.Name x px, iter, [c], 0⟩] scope pos) 0 (.ref It) (.ref H2.objs.size) (compEnvC scope cl (H2.push (listOf #[] 0)).objs.size env)) (RR (.ref H2.objs.size) (H2.push (listOf #[] 0)).objs.size) { s₁ with heap := h₁, toks := s₁.toks + ([] : List (Str × Value)).length } := fun RR hl9 =>
    codeAny_compStart_list (hl9 _ _ rfl rfl) ((Walks.list (prog := prog) (w := w) hh It l hlI items).self 0 _ _ _ ⟨hit1, N4.isList (.tail _ (.tail _ (.tail _ hl)))⟩ (hl9 _ _ rfl rfl))
  refine hR (fun acc C => compPost (model prog w) A E (some (assign (.Name y py) env)) (fun x s' => Q Flow.next s') acc C) (fun D C hD hC => ?_)
  clear hR
  rw [← hC, ← hD] at N4
  rw [← hC] at hns₁ hoC0
  rw [← hC, ← hD] at l4
  rw [← hD] at l3
  clear hC hD F3 N3 hsb₁ F2 N2 hit0 F N
  have nC : ∀ q ∈ ((D, listOf #[] 0) :: (It, oI0) :: news : Led), q.1 ≠ C := fun q hq => Nat.ne_of_lt (l4 q hq)
  have nD : ∀ q ∈ ((It, oI0) :: news : Led), q.1 ≠ D := fun q hq => Nat.ne_of_lt (l3 q hq)
  have nI : ∀ q ∈ news, q.1 ≠ It := fun q hq => Nat.ne_of_lt (l2 q hq)
  have eCD : D ≠ C := nC _ (.head _)
  have eCI : It ≠ C := nC _ (.tail _ (.head _))
  have eDI : It ≠ D := nD _ (.head _)
  have nC' : ∀ q ∈ news, q.1 ≠ C := fun q hq => nC q (.tail _ (.tail _ hq))
  have nD' : ∀ q ∈ news, q.1 ≠ D := fun q hq => nD q (.tail _ hq)
  have uC : ∀ oC oD oI o', upd ((C, oC) :: (D, oD) :: (It, oI) :: news) C o' = (C, o') :: (D, oD) :: (It, oI) :: news := fun oC oD oI o' => by
    show (if C = C then (C, o') else (C, oC)) :: (if D = C then (C, o') else (D, oD)) :: (if It = C then (C, o') else (It, oI)) :: upd news C o' = _
    rw [if_pos rfl, if_neg eCD, if_neg eCI, upd_same nC']
  have uD : ∀ oC oD oI o', upd ((C, oC) :: (D, oD) :: (It, oI) :: news) D o' = (C, oC) :: (D, o') :: (It, oI) :: news := fun oC oD oI o' => by
    show (if C = D then (D, o') else (C, oC)) :: (if D = D then (D, o') else (D, oD)) :: (if It = D then (D, o') else (It, oI)) :: upd news D o' = _
    rw [if_pos rfl, if_neg (Ne.symm eCD), if_neg eDI, upd_same nD']
  have uI : ∀ oC oD oI o', upd ((C, oC) :: (D, oD) :: (It, oI) :: news) It o' = (C, oC) :: (D, oD) :: (It, o') :: news := fun oC oD oI o' => by
    show (if C = It then (It, o') else (C, oC)) :: (if D = It then (It, o') else (D, oD)) :: (if It = It then (It, o') else (It, oI)) :: upd news It o' = _
    rw [if_pos rfl, if_neg (Ne.symm eCI), if_neg (Ne.symm eDI), upd_same nI]
  refine codeAny_compLoop_tests (CompI items p G env.locals m C D It l news s₁) ?_ (items.size + 1) ⟨0, g, h₁, _, _, _, _, 0, rfl, Nat.zero_le _, rfl, hG, F4, N4, hns₁, hit1⟩ (fun _ => rfl)
  clear N4 F4 hns₁ hit1 nC nD l3 l4 hoC0
  intro k s' zy21
  refine hushL ?_
  intro hGG
  obtain ⟨j, g', h', tk, oC, oI, m₃, epj, rfl, hj, rfl, hG', F5, N5, hn5, hit5⟩ := zy21
  k_unfold
  clear hGG
  by_cases hlt : j < items.size
  · refine wpAny_pyNext_list_item hit5 (N5.isList (.tail _ (.tail _ (.tail _ hl)))) (x := items[j]) (Array.getElem?_eq_getElem hlt) fun h6 hit6 hs6 => ?_
    refine hushL ?_
    intro hG
    obtain ⟨oI6, hoI6, rI6⟩ := id hit6
    k_unfold
    clear hG
    obtain ⟨F6, N6⟩ := news_upd9 F5 N5 (.tail _ (.tail _ (.head _))) hs6 hoI6
    rw [uI] at N6
    have hn6 := hn5.sameBut hs6 (Ne.symm eCI)
    refine wpAny_assign_Name (wpAny_storeName_local (lookup_relabel_local hx) hn6 (fun h7 hn7 hs7 => ?_) (by simp [compEnvC, relabel, hkind]))
    obtain ⟨oC7, hoC7⟩ : ∃ o, h7.get? C = some o := by
      refine hushL ?_
      intro hG
      obtain ⟨o, _, _, e, _⟩ := hn7
      k_unfold
      clear hG
      exact ⟨o, e⟩
    obtain ⟨F7, N7⟩ := news_upd9 (d := C) F6 N6 (.head _) hs7 hoC7
    replace hn7 : h7.Ns C (fun z => if z = x then some items[j] else m₃ z) := hn7
    rw [uC] at N7
    have hit7 : h7.IsListIter It l (j + 1) := ⟨oI6, (N7 _ (.tail _ (.tail _ (.head _)))).1, rI6⟩
    refine wpAny_tests_one (wpAny_mono (test items[j] g' h7 _ C oC7 _ D _ It oI6 (by simp) hG' F7 N7 hn7 (by simp)) (fun ok s8 h8 => ?_) fun _ _ e => e.elim)
    refine hushL ?_
    intro hGG
    obtain ⟨rfl, g8, h8, tk8, rfl, hG8, F8, N8⟩ := h8
    k_unfold
    clear hGG
    have tr : ∀ o, h7.get? C = some o → h8.get? C = some o := fun o e => by
      have := (N7 _ (.head _)).1
      rw [e] at this
      cases this
      exact (N8 _ (.head _)).1
    have hn8 := hn7.at' tr
    have hit8 : h8.IsListIter It l (j + 1) := ⟨oI6, (N8 _ (.tail _ (.tail _ (.head _)))).1, rI6⟩
    have htake : (items.toList.take (j + 1)).filter p = (items.toList.take j).filter p ++ (if p items[j] then [items[j]] else []) := take_succ_filter p items.toList j items[j] (by simp)
    cases hpv : p items[j] with
    | false =>
      simp only [Bool.false_eq_true, if_false]
      refine ⟨items.size + 1 - (j + 1), by omega, j + 1, g8, h8, tk8, oC7, oI6, _, epj, rfl, hlt, rfl, hG8, F8, ?_, hn8, hit8⟩
      rw [htake, hpv]
      simpa using N8
    | true =>
      simp only [if_true]
      refine wpAny_Name (wpAny_loadName_local (by simp [compEnvC, relabel, hkind]) (lookup_relabel_local hx) hn8 (v := items[j]) (by simp) ?_) hx9
      refine wpAny_list_append_plain (hsz := ?_) ⟨epj, (N8 _ (.tail _ (.head _))).1⟩ fun h9 hl9 hs9 => ?_
      · obtain ⟨ep9, ho9⟩ := hl9
        obtain ⟨F9, N9⟩ := news_upd9 F8 N8 (.tail _ (.head _)) hs9 ho9
        rw [uD] at N9
        refine ⟨items.size + 1 - (j + 1), by omega, j + 1, g8, h9, tk8, oC7, oI6, _, ep9, rfl, hlt, rfl, hG8, F9, ?_, hn8.sameBut hs9 (Ne.symm eCD), ⟨oI6, (N9 _ (.tail _ (.tail _ (.head _)))).1, rI6⟩⟩
        rw [htake, hpv]
        simpa [W.listOf] using N9
      · have : ((items.toList.take j).filter p).length ≤ j := Nat.le_trans (List.length_filter_le _ _) (by simp [Nat.min_le_left])
        rw [sizeLine_eq]; simp only [List.size_toArray]; omega
  · obtain rfl : j = items.size := by omega
    refine wpAny_pyNext_list_end hh hit5 (N5.isList (.tail _ (.tail _ (.tail _ hl)))) (by simp) fun h6 hx6 => ?_
    show wpAny _ A (assign (.Name y py) env (.ref D)) _ _ _
    have zC := N5 _ (.head _)
    have zD := N5 _ (.tail _ (.head _))
    have zI := N5 _ (.tail _ (.tail _ (.head _)))
    refine wpAny_assign_Name (wpAny_storeName_local hy (F5.ns.extBut hx6 (Ne.symm zI.2.1)) (fun h7 hn7 hs7 => ?_) hp)
    refine ⟨m₃, (hn5.extBut hx6 (Ne.symm eCI)).sameBut hs7 zC.2.1, fun h8 hs8 => ?_⟩
    have base : ∀ b o, b ≠ It → b ≠ env.locals → b ≠ C → h'.get? b = some o → h8.get? b = some o := fun b o n1 n2 n3 e => hs8.extBut b o n3 (hs7.extBut b o n2 (hx6 b o n1 e))
    have old : ∀ b o, g'.get? b = some o → h'.get? b = some o → h8.get? b = some o := fun b o e q => base b o (fun z => by rw [z, zI.2.2] at e; cases e) (Nat.ne_of_lt (Nat.lt_of_lt_of_le (Heap.lt_size e) F5.above)) (fun z => by rw [z, zC.2.2] at e; cases e) q
    refine fin g' D h8 _ epj hG' ⟨hn7.sameBut hs8 (Ne.symm zC.2.1), fun b o e => old b o e (F5.keep b o e), F5.above⟩ fun q hq => ?_
    rcases List.mem_cons.mp hq with rfl | hq
    · refine ⟨base _ _ (Ne.symm eDI) zD.2.1 eCD ?_, zD.2⟩
      rw [zD.1, List.take_of_length_le (by simp)]
    · have z := N5 q (.tail _ (.tail _ (.tail _ hq)))
      exact ⟨base _ _ (nI q hq) z.2.1 (nC' q hq) z.1, z.2⟩
end J_C9
example {M : Model} {A : Around} {Q : Unit → Shared → Prop} {E : Value → Shared → Prop} {s : Shared} : wpAny M A (pure ()) Q E s ∨ True := by w_top off; first | (left; walk1; done) | (right; trivial)
section J_X6
theorem RaisedT.turn {base g g' : Heap} {l : List Env} {e C D : Addr} {w : Value} {news : Led} {h : Heap} (T' : KtsTurn (fr9 l) g g') (R : RaisedT base g' l e C D w news h) : RaisedT base g l e C D w news h := by
  refine hushL ?_
  intro hG
  obtain ⟨t, B, h1, h2, h3, r⟩ := R
  k_unfold
  clear hG
  refine ⟨t, B, h1, fun b o q nm => h2 b o (T'.other b o q nm) nm, fun q hq => ?_, r⟩
  refine hushL ?_
  intro hG
  obtain ⟨a1, a2, a3⟩ := h3 q hq
  k_unfold
  clear hG
  refine ⟨a1, ?_, a3⟩
  cases e : g.get? q.1 with
  | none => rfl
  | some o =>
    obtain ⟨sl, hs⟩ := T'.up e
    rw [a2] at hs; cases hs
theorem raise_body {c : Cx} {C : Addr} {v : Value} (hC : C = 52 ∨ C = 64 ∨ C = 76) {dp un : Nat} {gd : Option (List Code)} {cn : Str} {cs : Scope} {a : Addr} {ccd : Value} {cl : List (Str × Addr)} {outer : List Env} {A₀ : Around} {base g0 h₀ : Heap} {L : Addr} {m : Str → Option Value} {s0 : Shared} {h : Heap} {tk : Nat} {news0 news : Led} {S : List Addr} {RE : Addr → Value → Prop} {E : Value → Shared → Prop}
    (T' : KtsTurn (fr9 outer) g0 h₀) (B : Below A₀ base outer h₀) (F : Fr h₀ L h m) (X : (hd.heap_1 c.w.params).In h₀) (N : News h₀ L h news) (T : Top hd.view_1 LO c.mean c.mg c.mb h₀) (hk : cs.kind = .function) (hd9 : dp + 10 < recursionLimit) (hu : un + 50 < cLine)
    (hRE : RE C v) (sub : ∀ p ∈ news0, p.1 ∉ S → p ∈ news) :
    wpAny (model PySem.Challenge.rw_pb0121_01.row.prog c.w) (ktrTop dp un gd cn cs L a ccd cl outer) (call (.ref C) [v]) (RaisableO c (ErrX c dp un gd cn cs L a ccd cl outer base g0 news0 S RE s0)) E { s0 with heap := h, toks := tk } := by
  refine mk_exc hC B F X N T hk hd9 hu (fun h7 tk7 e7 t7 D7 Md => ?_)
  refine ⟨C, e7, t7, D7, hC, rfl, fun b o q => Md.keep b o ((X.keeps F.keep) b o q), Md.at_, ?_⟩
  unfold ErrX
  refine leave_X (env' := envX cn cs L a ccd cl) (outer := outer) rfl B F N Md rfl hk (E := fun v s'' => OutX base g0 outer news0 S RE s0 v s'') (fun h' es n9 RT up => ?_)
  exact ⟨e7, C, D7, v, _, rfl, hRE, fun p hp hn => .tail _ (sub p hp hn), RT.turn T', fun b o q nf => by
    obtain ⟨sl, hs⟩ := T'.up q
    obtain ⟨sl', hs'⟩ := up b _ hs nf
    exact ⟨sl', hs'⟩, rfl, rfl, rfl⟩
end J_X6
example {M : Model} {A : Around} {Q : Unit → Shared → Prop} {E : Value → Shared → Prop} {s : Shared} : wpAny M A (pure ()) Q E s ∨ True := by w_top off; first | (left; walk1; done) | (right; trivial)
section J_S8
example : True := by
  (k_with "compareOp Eq" => with_reducible refine stopP14 ?_)
  (k_with "subscriptTail" => with_reducible refine stopP8 ?_)
  (k_with "exec Raise some none" => refine Raise_own rfl ?_)
  (k_with "exec If" => with_reducible refine stopP15 ?_)
  (k_with "call builtin:len" => with_reducible refine stopP6 ?_)
  trivial
theorem fr_some {h₀ h : Heap} {L : Addr} {v : Value} {M : Str → Option Value} (F : Fr h₀ L h (fun z => if z = Str.ofString "some" then some v else M z)) : ∃ M1 : Str → Option Value, M1 = M ∧ Fr h₀ L h (fun z => if z = Str.ofString "some" then some v else M1 z) := ⟨M, rfl, F⟩
/-- what holds behind the choice by the kind -/
noncomputable def FindJ (A₀ : Around) (base g : Heap) (outer : List Env) (L' : Addr) (M1 : Str → Option Value) (news : Led) (rs : List Rec) (s : Shared) (f : Flow) (s' : Shared) : Prop :=
  f = .next ∧ ∃ g' h' tk D ts k, s' = { s with heap := h', toks := tk } ∧ KtsTurn (fr9 outer) g g' ∧ Below A₀ base outer g' ∧ Fr g' L' h' (fun z => if z = Str.ofString "some" then some (.ref D) else M1 z) ∧ News g' L' h' ((D, idsL ts k) :: news) ∧ ts.map (fun p => p.1.toList) = rs.map fun r => idL r.n
noncomputable def hits (rs : List Rec) (x : Str) : List Rec := match preS x with
  | none => []
  | some y => rs.filter fun r => preB y (idA r.n)
noncomputable def keptR (fb : Rec → Bool) (rs : List Rec) (x : Str) (kd : Option Nat) : List Rec := if kd.isSome && decide (1 < (hits rs x).length) then (hits rs x).filter fb else hits rs x
noncomputable def IsKind (kd : Option Nat) (v : Value) : Prop := match kd with
  | none => v = .none
  | some k => k < 4 ∧ ∃ t, v = .bytes (byK k) t
theorem hits_len (rs : List Rec) (x : Str) : (hits rs x).length ≤ rs.length := by
  unfold hits
  split
  · exact Nat.zero_le _
  · exact List.length_filter_le _ _
theorem keptR_len (fb : Rec → Bool) (rs : List Rec) (x : Str) (kd : Option Nat) : (keptR fb rs x kd).length ≤ rs.length := by
  have := hits_len rs x
  unfold keptR
  split
  · exact Nat.le_trans (List.length_filter_le _ _) this
  · exact this
noncomputable def ppB (rs : List Rec) (fb : Rec → Bool) (l : List UInt8) : Bool := rs.any fun r => decide (idL r.n = l) && fb r
noncomputable def ppV (rs : List Rec) (fb : Rec → Bool) : Value → Bool
  | .bytes b _ => ppB rs fb b.toList
  | _ => false
theorem ppB_id {rs : List Rec} (h : RecsOk rs) (fb : Rec → Bool) {r : Rec} (hr : r ∈ rs) : ppB rs fb (idL r.n) = fb r := by
  unfold ppB
  cases hf : fb r with
  | true => exact List.any_eq_true.mpr ⟨r, hr, by simp [hf]⟩
  | false =>
    refine List.any_eq_false.mpr fun r' hr' => ?_
    by_cases e : idL r'.n = idL r.n
    · have := h.uniq hr' hr (idL_inj (by have := h.lt _ hr'; omega) (by have := h.lt _ hr; omega) e)
      subst this
      simp [hf]
    · simp [e]
theorem hits_sub (rs : List Rec) (x : Str) : ∀ r ∈ hits rs x, r ∈ rs := by
  intro r hr
  unfold hits at hr
  split at hr
  · cases hr
  · exact (List.mem_filter.mp hr).1
theorem ts_filter {rs : List Rec} (h : RecsOk rs) (fb : Rec → Bool) {hs : List Rec} (hsub : ∀ r ∈ hs, r ∈ rs) {ts : List (Array UInt8 × Tok)} (hts : ts.map (fun p => p.1.toList) = hs.map fun r => idL r.n) :
    (ts.filter fun q => ppB rs fb q.1.toList).map (fun p => p.1.toList) = (hs.filter fb).map fun r => idL r.n := by
  have e1 : (ts.filter fun q => ppB rs fb q.1.toList).map (fun p => p.1.toList) = (ts.map fun p => p.1.toList).filter (ppB rs fb) := by
    rw [List.filter_map]; rfl
  have e2 : (hs.map fun r => idL r.n).filter (ppB rs fb) = (hs.filter fb).map fun r => idL r.n := by
    rw [List.filter_map]
    congr 1
    exact List.filter_congr fun r hr => ppB_id h fb (hsub r hr)
  rw [e1, hts, e2]
theorem ids_mem {ts : List (Array UInt8 × Tok)} {hs : List Rec} {v : Value} (hts : ts.map (fun p => p.1.toList) = hs.map fun r => idL r.n) (hv : v ∈ (ts.map fun p => Value.bytes p.1 p.2).toArray.toList) : ∃ r t, r ∈ hs ∧ v = .bytes (idA r.n) t := by
  rw [List.toList_toArray] at hv
  obtain ⟨p, hp, rfl⟩ := List.mem_map.mp hv
  have : p.1.toList ∈ hs.map fun r => idL r.n := hts ▸ List.mem_map.mpr ⟨p, hp, rfl⟩
  refine hushL ?_
  intro hG
  obtain ⟨r, hr, e⟩ := List.mem_map.mp this
  k_unfold
  clear hG
  obtain ⟨⟨l⟩, t⟩ := p
  have hl : l = idL r.n := e.symm
  subst hl
  exact ⟨r, t, hr, rfl⟩
theorem find_spec (c : Cx) (a : Ads) (rs : List Rec) (x : Str) (t : Tok) (kd : Option Nat) (kv : Value) (fb : Rec → Bool) (news : Led) (hS : Sto c.w news a rs) (h2 : 2 ≤ rs.length) (hx : x.cps.size ≤ 9) (hA : ∀ k ∈ x.cps.toList, k < 128) (hk : IsKind kd kv) (hf : ∀ k, kd = some k → ∀ r ∈ rs, Fits rs k r (fb r)) :
   SpecX c 530 60 900 [.ref a.st, .str x t, kv] news [] (fun v _ => ∃ r t, keptR fb rs x kd = [r] ∧ v = .bytes (idA r.n) t) (fun C w => (C = 64 ∧ hits rs x = [] ∧ ∃ t, w = .str x t) ∨ (C = 76 ∧ hits rs x ≠ [] ∧ (keptR fb rs x kd).length ≠ 1)) := by
  refine' enterXC (binds := [(Str.ofString "self", .ref a.st), (Str.ofString "prefix", .str x t), (Str.ofString "kind", kv)]) ?k6 ?k7 ?k9 ?kB ?kD ?c2 ?c3 ?c4 ?_
  ((case k6 => k_is); (case k7 => k_is); (case k9 => intro s9 X9; first | exact BindsTo.of_eq rfl | exact binds_K X9 rfl (by k_is) rfl rfl rfl); (case kB => exact rfl); (case kD => decide +kernel); (case c2 => exact rfl); (case c3 => exact rfl); (case c4 => exact rfl); skip)
  intro dp un gd outer A₀ base g L' h₁ tk s cells C hd9 hu9 Y hlt; obtain ⟨⟨B, F, X, N, T, hk9⟩, XB, TB, DD⟩ := C
  obtain ⟨o1, o2, hE, d1, d2⟩ := CellsAre.two Y; subst hE; clear Y; (try simp only [List.cons_append, List.nil_append] at N); (try dsimp only); k_fold; (try (refine letA (P := fun A9 => wpAny _ A9 _ _ _ _) _ ?_; intro A9))
  refine hushL ?_
  intro hG
  obtain ⟨⟨m1, hq1⟩, hz1, t4, hz2, t5, n, m2, hq2⟩ := hS.fr.st
  k_unfold
  clear hG
  refine hushL ?_
  intro hG
  obtain ⟨⟨m3, hq3⟩, hz5, t6, t7, hz6, t8, n3, m4, hq4⟩ := hS.fr.hs
  k_unfold
  clear hG
  k_steps
  unfold Stop9
  refine' Spec.use (prefix_spec c _ _ _ _ hx hA) ?sB ?sF ?sX ?sN ?sT ?sk ?sd ?su ?_
  ((case sB => assumption); (case sF => assumption); (case sX => assumption); (case sN => assumption); (case sT => assumption); (case sk => first | rfl | assumption); (case sd => (first | (refine' room9 ?rh ?rk; (case rh => assumption); (case rk => rfl)) | (refine' room1 ?rh ?rk; (case rh => assumption); (case rk => rfl)) | omega)); (case su => (first | (refine' room9 ?rh ?rk; (case rh => assumption); (case rk => rfl)) | (refine' room1 ?rh ?rk; (case rh => assumption); (case rk => rfl)) | omega)))
  rintro v n9 h9 t9 ⟨rfl, hv⟩ hs9 F9 N9 K9
  cases hpre : preS x with
  | none =>
    rw [hpre] at hv
    obtain rfl : v = .none := hv
    dsimp only
    k_steps
    unfold Stop9
    rename Fr _ _ _ _ => F1
    rename News _ _ _ _ => N1
    have hh : hits rs x = [] := by unfold hits; rw [hpre]
    exact raise_body (.inr (.inl rfl)) KtsTurn.refl B F1 X N1 T rfl (by omega) (by omega) (.inl ⟨rfl, hh, _, rfl⟩) (fun p hp _ => .tail _ (.tail _ hp))
  | some y =>
    rw [hpre] at hv
    obtain ⟨ty, rfl⟩ := hv
    dsimp only
    k_steps
    unfold Stop9
    rename Fr _ _ _ _ => F1
    rename News _ _ _ _ => N1
    have hS1 := (hS.cons (L' + 1, o2)).cons (L' + 1 + 1, o1)
    refine' Spec.use (prefixed_spec c a rs y _ _ hS1 h2) ?sB ?sF ?sX ?sN ?sT ?sk ?sd ?su ?_
    ((case sB => assumption); (case sF => assumption); (case sX => assumption); (case sN => assumption); (case sT => assumption); (case sk => first | rfl | assumption); (case sd => (first | (refine' room9 ?rh ?rk; (case rh => assumption); (case rk => rfl)) | (refine' room1 ?rh ?rk; (case rh => assumption); (case rk => rfl)) | omega)); (case su => (first | (refine' room9 ?rh ?rk; (case rh => assumption); (case rk => rfl)) | (refine' room1 ?rh ?rk; (case rh => assumption); (case rk => rfl)) | omega)))
    intro v n9 h9 t9 zy22 hs9 F9 N9 K9
    refine hushL ?_
    intro hGG
    obtain ⟨D0, ts, k0, rfl, rfl, hts⟩ := zy22
    k_unfold
    clear hGG
    have hhits : hits rs x = rs.filter fun r => preB y (idA r.n) := by unfold hits; rw [hpre]
    rw [← hhits] at hts
    unfold idsL at N9
    dsimp only
    k_steps
    rename Fr _ _ _ _ => F1
    rename News _ _ _ _ => N1
    have hlen : ts.length = (hits rs x).length := by have := congrArg List.length hts; simpa using this
    by_cases hh : hits rs x = []
    · have ht0 : ts = [] := List.eq_nil_of_length_eq_zero (by rw [hlen, hh]; rfl)
      subst ht0
      (try unfold Stop9)
      refine PySem.SeqAt.RcAt.lists (e := fun _ => true) (N1.isList (.tail _ (.head _))) (N1.isList (.head _)) rfl (by show un < cLine; omega) (fun j h1 _ => absurd h1 (by simp)) _ _ _ _ ?_
      k_steps
      rename Fr _ _ _ _ => F1
      rename News _ _ _ _ => N1
      unfold Stop9
      exact raise_body (.inr (.inl rfl)) KtsTurn.refl B F1 X N1 T rfl (by omega) (by omega) (.inl ⟨rfl, hh, _, rfl⟩) (fun p hp _ => .tail _ (.tail _ (.tail _ (.tail _ hp))))
    · have hpos : 0 < ts.length := by rw [hlen]; exact List.length_pos_iff.mpr hh
      (try unfold Stop9)
      refine PySem.SeqAt.RcAt.lists_lengths (N1.isList (.tail _ (.head _))) (N1.isList (.head _)) (by simp; intro e; subst e; simp at hpos) (by show un < cLine; omega) _ _ _ _ ?_
      k_steps
      unfold Stop9
      rename Fr _ _ _ _ => F2
      rename News _ _ _ _ => N2
      replace N2 := News.sub (news' := (D0, idsL ts k0) :: (L' + 1 + 1, o1) :: (L' + 1, o2) :: news) N2 (fun p hp => .tail _ hp)
      refine hushL ?_
      intro hG
      obtain ⟨M1, hM1, F2⟩ := fr_some F2
      k_unfold
      clear hG
      refine wpAny_mono (Q := FindJ A₀ base g outer L' M1 ((L' + 1 + 1, o1) :: (L' + 1, o2) :: news) (keptR fb rs x kd) s) ?_ (fun f s' hJ => ?_) (fun _ _ e => e)
      · cases hkd : kd with
        | none =>
          subst hkd
          obtain rfl : kv = .none := hk
          unfold idsL at N2
          refine wpAny_If ?_
          k_steps
          unfold Stop9
          refine KM.len_K (n := ts.length) N2 (.head _) (by simp) (by rw [hlen]; have := hS.ok.len; have := hits_len rs x; omega) ?_
          k_steps
          · subst hM1
            exact ⟨rfl, g, _, _, D0, ts, k0, rfl, KtsTurn.refl, B, F2, N2, by rw [hts]; rfl⟩
          · subst hM1
            exact ⟨rfl, g, _, _, D0, ts, k0, rfl, KtsTurn.refl, B, F2, N2, by rw [hts]; rfl⟩
        | some k =>
          subst hkd
          obtain ⟨hk4, tk2, rfl⟩ := hk
          unfold idsL at N2
          refine wpAny_If ?_
          k_steps
          unfold Stop9
          refine KM.len_K (n := ts.length) N2 (.head _) (by simp) (by rw [hlen]; have := hS.ok.len; have := hits_len rs x; omega) ?_
          k_steps
          · unfold Stop9
            subst hM1
            have hlt1 : 1 < ts.length := by omega
            refine' compG_as (fun g' => KtsTurn (fr9 outer) g g' ∧ Below A₀ base outer g') (ppV rs fb) ?hh ?h0 ?h1 ?h2 ?h3 ?h4 ?h5 ?h6 ?h7 ?h8 ?h9 ?h10
            case hh => rfl
            case h0 => rfl
            case h1 => rfl
            case h2 => decide
            case h3 => rfl
            case h4 => decide
            case h5 => rfl
            case h6 => decide
            case h7 => rfl
            case h8 => rfl
            case h10 => intro _; rfl
            refine nameX_L F2 rfl ?_
            refine ⟨g, _, _, D0, _, k0, rfl, ⟨KtsTurn.refl, B⟩, F2, N2, .head _, by simp only [List.size_toArray, List.length_map]; have := hS.ok.len; have := hits_len rs x; omega, ?_, ?_⟩
            · intro v g' h' tk C oC m₃ D oD I oI hv zz5 F3 N3 hn hm
              refine hushL ?_
              intro hG
              obtain ⟨T', B'⟩ := zz5
              k_unfold
              clear hG
              refine hushL ?_
              intro hGG
              obtain ⟨r, tb, hr, rfl⟩ := ids_mem hts hv
              k_unfold
              clear hGG
              have hrr := hits_sub rs x r hr
              have X' := XB.keeps B'.stays
              have TT' := TB.keeps B'.stays
              rw [show ppV rs fb (.bytes (idA r.n) tb) = fb r from ppB_id hS.ok fb hrr]
              dsimp only at F3 N3
              refine stopEnd ?_
              k_steps
              unfold Stop9
              refine iskind_spec c a rs r k (byK k) _ _ _ ((((((hS.cons _).cons _).cons _).cons _).cons _).cons _) hrr hk4 rfl (fb r) (hf k rfl r hrr) _ _ _ _ _ _ _ _ _ _ _ _ _ _ _ _ _ ⟨⟨B', F3, X', N3, TT', rfl⟩, XB, TB, DD.turn T'⟩ (by omega) (by omega) (fun v n9 h9 t9 g9 hR hs9 T9 F9 N9 B9 => ?_) (fun e C D w9 n9 h9 t9 g9 hR _ _ _ _ => hR.elim)
              obtain rfl := hR
              k_steps
              exact unstop ⟨rfl, g9, h9, t9, rfl, ⟨T'.trans T9, B9⟩, F9, News.sub N9 (fun p hp => hs9 p hp (by simp))⟩
            · intro g' D h' tk ep' zz6 F3 N3
              refine hushL ?_
              intro hG
              obtain ⟨T', B'⟩ := zz6
              k_unfold
              clear hG
              refine wpAny_execs_nil ?_
              refine ⟨rfl, g', h', tk, D, ts.filter fun q => ppB rs fb q.1.toList, ep', rfl, T', B', fr_eq F3 ?_, News.sub N3 (fun p hp => ?_), ?_⟩
              · funext z
                by_cases hz : z = Str.ofString "some"
                · simp only [if_pos hz]
                · simp only [if_neg hz]
              · rcases List.mem_cons.mp hp with rfl | hp
                · refine List.mem_cons.mpr (.inl ?_)
                  unfold idsL
                  rw [List.toList_toArray, List.filter_map]
                  rfl
                · exact .tail _ (.tail _ hp)
              · rw [ts_filter hS.ok fb (hits_sub rs x) hts]
                unfold keptR
                rw [if_pos (by simp; omega)]
          · subst hM1
            refine ⟨rfl, g, _, _, D0, ts, k0, rfl, KtsTurn.refl, B, F2, N2, ?_⟩
            rw [hts]
            unfold keptR
            rw [if_neg (by simp; omega)]
      · refine hushL ?_
        intro hGG
        obtain ⟨rfl, g', h', tk, D, ts', k', rfl, T', B', F3, N3, hts'⟩ := hJ
        k_unfold
        clear hGG
        subst hM1
        clear N2 F2 K9 hs9
        have X' := XB.keeps B'.stays
        have TT' := TB.keeps B'.stays
        have hl3 : ts'.length = (keptR fb rs x kd).length := by have := congrArg List.length hts'; simpa using this
        unfold idsL at N3
        dsimp only
        k_steps
        unfold Stop9
        refine KM.len_K (n := ts'.length) N3 (.head _) (by simp) (by rw [hl3]; have := hS.ok.len; have := keptR_len fb rs x kd; omega) ?_
        k_steps
        · unfold Stop9
          exact raise_body (.inr (.inr rfl)) T' B' (by assumption) X' (by assumption) TT' rfl (by omega) (by omega) (.inr ⟨rfl, hh, by omega⟩) (fun p hp _ => .tail _ (.tail _ (.tail _ hp)))
        · obtain ⟨r, hr⟩ : ∃ r, keptR fb rs x kd = [r] := List.length_eq_one_iff.mp (by omega)
          rw [hr] at hts'
          obtain ⟨b9, tb9, rfl, hb9⟩ : ∃ b t, ts' = [(b, t)] ∧ b.toList = idL r.n := by
            cases ts' with
            | nil => simp at hts'
            | cons p tl => cases tl with
              | nil => exact ⟨p.1, p.2, rfl, by simpa using hts'⟩
              | cons q tl => simp at hts'
          obtain rfl : b9 = idA r.n := by
            cases b9; exact congrArg Array.mk hb9
          (try unfold Stop9)
          refine item_listR (N3.isList (.head _)) (by decide) (by decide) rfl ?_
          exact ⟨g', _, _, T', F3, N3, fun p hp _ => .tail _ (.tail _ (.tail _ hp)), ⟨r, tb9, hr, rfl⟩, rfl, rfl, rfl⟩
end J_S8
example : True := by
  k_with_none
  (k_with "call ref" => refine stop_ref rfl ?_)
  (k_with "eval ListComp" => with_reducible refine stopP0 ?_)
  (k_with "exec For" => with_reducible refine stopP1 ?_)
  (k_with "exec Assign cons ListComp" => with_reducible refine stopP2 ?_)
  (k_with "call type:bytes" => (with_reducible show wpAny _ _ (call (Value.type "bytes") [Value.bytes _ _]) _ _ _; refine bytes_bytes ?_))
  (k_with "subscriptTail" => (with_reducible show wpAny _ _ (subscriptTail _ _ (Value.ref _) (Value.str _ _)) _ _ _; refine' kda_item (knd := PySem.strKind _ _) ?iN ?im ?ih (strKind_is _ _ _ _) ?iv ?_; (case iN => assumption); (case im => assumption); (case ih => assumption); (case iv => with_unfolding_all rfl)))
  (k_with "binaryOp Add bytes bytes" => ((with_reducible show wpAny _ _ (binaryOp Operator.Add (Value.bytes _ _) (Value.bytes _ _)) _ _ _); (refine KBy.add_bytes (by first | assumption | ((try simp only [Array.size_append, List.size_toArray, List.length_cons, List.length_nil]); omega)) ?_); intro _ _))
  (k_with "call builtin:len" => ((with_reducible show wpAny _ _ (call (Value.builtin "len") [Value.bytes _ _]) _ _ _); (refine len_bytes (by first | assumption | omega) ?_)))
  trivial
example {M : Model} {A : Around} {Q : Unit → Shared → Prop} {E : Value → Shared → Prop} {s : Shared} : wpAny M A (pure ()) Q E s ∨ True := by w_top off; first | (left; walk1; done) | (right; trivial)
section J_S9a
theorem told_attr {prog : Program} {w : World} {A : Around} {E : Value → Shared → Prop} {s : Shared} {K : Frag} {x C : Addr} {ox od : Obj} {name : Str} {expr : Bool} {v : Value} {Q : Value → Shared → Prop} (X : K.In s.heap) (I : InstAt s.heap x ox C (some od)) (hga : findIn K (.ref C) "__getattribute__" = some (some (.builtin "BaseException.__getattribute__"))) (hgt : findIn K (.ref C) "__getattr__" = some none)
    (hmro : mroIn K C (.type "BaseException") = some true) (hf : findObj K C (some od) name = some (.value v)) (hh : handedIn v = true) (h : Q v { s with toks := s.toks + 1 }) : wpAny (model prog w) A (getAttr (.ref x) name expr) Q E s := by
  refine hushL ?_
  intro hG
  obtain ⟨hp, g, d, t, os⟩ := s
  k_unfold
  clear hG
  have L0 := I.type (M := model prog w)
  have L1 := looks_findIn (M := model prog w) X hga
  have L2 := looks_find (M := model prog w) X I hf
  have L3 := looks_findIn (M := model prog w) X hgt
  have f3 := PySem.F.attr_Exception.ga.bind (.ref x)
  unfold getAttr getAttrBy
  refine wpAny_bind (wpAny_mkText (wpAny_holding (wpAny_bind (L0.at (wpAny_bind (L1.at ?_))))))
  have hx2 : (Value.builtin "BaseException.__getattribute__" == Value.builtin "object.__getattribute__") = false := by decide +kernel
  dsimp only
  rw [hx2, Bool.and_false, if_neg (by decide)]
  unfold getAttrByItsOwn hookBefore
  refine wpAny_bind ?_
  show wpAny _ _ (typeLookup (.ref C) (Str.ofString "__getattr__")) _ _ _
  refine L3.at ?_
  have hx0 : ¬ ((expr && onTheHeap (Value.builtin "BaseException.__getattribute__")) = true) := by cases expr <;> decide
  refine wpAny_bind (wpAny_attempt (wpAny_holding ?_))
  unfold callGetattribute
  rw [if_neg hx0]
  have sub : Looks (model prog w) (⟨hp, g, d, t + 1, os⟩ : Shared).heap (isInstance (.ref x) (.type "BaseException")) true := I.type.andThen (looks_mroIn X hmro)
  have hk : builtinKind "BaseException.__getattribute__" = some .slot := by decide +kernel
  have hsplit : splitId "BaseException.__getattribute__" = some ("BaseException", "__getattribute__") := by decide +kernel
  repeat (any_goals (first | assumption | wp_step))
  refine codeAny_call_builtin PySem.F.attr_Exception.ga.plain PySem.F.entry_bexc_ga (@check_slot (model prog w) _ _ ⟨hp, g, d, t + 1, os⟩ "BaseException.__getattribute__" "BaseException" "__getattribute__" (.ref x) [.str name t] [] _ hk hsplit sub (PySem.F.args_bexc_ga (.ref x) (.str name t)) ?_)
  unfold Builtin.«object.__getattribute__»
  refine wpAny_bind (wpAny_pure (wpAny_bind (wpAny_pure (wpAny_bind (L0.at (wpAny_bind (L2.at ?_)))))))
  refine wpAny_pure ?_
  show wpAny _ _ (handedOut v) _ _ _
  rw [handedOut_of hh]; exact wpAny_pure h
end J_S9a
example {M : Model} {A : Around} {Q : Unit → Shared → Prop} {E : Value → Shared → Prop} {s : Shared} : wpAny M A (pure ()) Q E s ∨ True := by w_top off; first | (left; walk1; done) | (right; trivial)
section J_S9
example : True := by
  (k_with "exec Try" => with_reducible refine stopP10 ?_)
  trivial
noncomputable def IsTold (fb : Rec → Bool) (rs : List Rec) (x : Str) (kd : Option Nat) (v : Value) : Prop :=
  (hits rs x = [] ∧ ∃ t, v = .str (Str.ofString "missing") t) ∨ (hits rs x ≠ [] ∧ (∃ r t, keptR fb rs x kd = [r] ∧ v = .bytes (idA r.n) t)) ∨ (hits rs x ≠ [] ∧ (keptR fb rs x kd).length ≠ 1 ∧ ∃ t, v = .str (Str.ofString "several") t)
theorem keptR_nil {fb : Rec → Bool} {rs : List Rec} {x : Str} {kd : Option Nat} (h : hits rs x = []) : keptR fb rs x kd = [] := by
  unfold keptR
  rw [h]
  split <;> rfl
theorem ftold_spec (c : Cx) (a : Ads) (rs : List Rec) (x : Str) (t : Tok) (kd : Option Nat) (kv : Value) (fb : Rec → Bool) (news : Led) (hS : Sto c.w news a rs) (h2 : 2 ≤ rs.length) (hx : x.cps.size ≤ 9) (hA : ∀ k ∈ x.cps.toList, k < 128) (hk : IsKind kd kv) (hf : ∀ k, kd = some k → ∀ r ∈ rs, Fits rs k r (fb r)) :
   SpecX c 585 70 1100 [.ref a.st, .str x t, kv] news [] (fun v _ => IsTold fb rs x kd v) (fun _ _ => False) := by
  refine' enterX (binds := [(Str.ofString "store", .ref a.st), (Str.ofString "text", .str x t), (Str.ofString "kind", kv)]) ?k6 ?k7 ?k9 ?kB ?c2 ?c3 ?c4 ?c5 ?_
  ((case k6 => k_is); (case k7 => k_is); (case k9 => intro s9 X9; first | exact BindsTo.of_eq rfl | exact binds_K X9 rfl (by k_is) rfl rfl rfl); (case kB => exact locs rfl); (case c2 => exact rfl); (case c3 => exact rfl); (case c4 => exact rfl); (case c5 => decide); skip)
  intro dp un gd outer A₀ base g L' h₁ tk s C hd9 hu9; obtain ⟨⟨B, F, X, N, T, hk9⟩, XB, TB, DD⟩ := C; (try dsimp only); k_fold; (try (refine letA (P := fun A9 => wpAny _ A9 _ _ _ _) _ ?_; intro A9))
  refine hushL ?_
  intro hG
  obtain ⟨⟨m1, hq1⟩, hz1, t4, hz2, t5, n, m2, hq2⟩ := hS.fr.st
  k_unfold
  clear hG
  k_steps
  unfold Stop9
  rename Fr _ _ _ _ => F1
  rename News _ _ _ _ => N1
  refine wpAny_Try_except ?_
  k_steps
  unfold Stop9
  refine find_spec c a rs x t kd kv fb _ hS h2 hx hA hk hf _ _ _ _ _ _ _ _ _ _ _ _ _ _ _ _ _ ⟨⟨B, F1, X, N1, T, rfl⟩, XB, TB, DD⟩ (by omega) (by omega) (fun v n9 h9 t9 g9 hR hs9 T9 F9 N9 B9 => ?_) (fun e C D w9 n9 h9 t9 g9 hR hs9 F9 R9 up => ?_)
  · have X9 := XB.keeps B9.stays
    have TT9 := TB.keeps B9.stays
    refine hushL ?_
    intro hGG
    obtain ⟨r, tr, hkr, rfl⟩ := hR
    k_unfold
    clear hGG
    k_steps
    rename Fr g9 _ _ _ => F8
    rename News g9 _ _ _ => N8
    exact ⟨g9, _, _, T9, F8, N8, fun p hp _ => hs9 _ hp (by simp), .inr (.inl ⟨fun h => (by rw [keptR_nil h] at hkr; cases hkr), r, tr, hkr, rfl⟩), rfl, rfl, rfl⟩
  · rcases hR with ⟨rfl, hh, tw, rfl⟩ | ⟨rfl, hh, hne⟩
    · refine hushL ?_
      intro hG
      obtain ⟨t7, B7, H, R, es, n7, hm⟩ := Ask9.of B F9 DD XB TB (.inr (.inl rfl)) up R9
      k_unfold
      clear hG
      refine land9 (base := base) rfl rfl R fun h' R' => ?_
      refine handle_no (C2 := 76) H R' (by with_unfolding_all rfl) (.inr (.inr rfl)) (by decide) ?_
      refine handle_as H R' (by with_unfolding_all rfl) fun h'' R'' => ?_
      refine hushL ?_
      intro hG
      obtain ⟨g', oe, vs, T', F', K', N', oc, od, odd, DD'⟩ := ground9 H.K H.F H.DD H.BG H.hl R''
      k_unfold
      clear hG
      have X' := XB.keeps K'.stays
      have TT' := TB.keeps K'.stays
      k_steps
      rename Fr g' _ _ _ => F6
      rename News g' _ _ _ => N6
      refine told_attr (C := 64) (ox := oe) (od := dictOf [⟨es, .str (Str.ofString "told") n7, .str x tw⟩] 1) (X'.keeps F6.keep) ⟨(N6 _ (.head _)).1, oc, by unfold notCls; rw [od], by rw [odd]; exact (N6 _ (.tail _ hm)).1⟩ (by k_is) (by k_is) (by k_is) (findObj_own (attr := none) (by k_is) (by k_is) (by rfl) (by with_unfolding_all rfl)) rfl ?_
      k_steps
      · rename Fr g' _ _ _ => F7
        rename News g' _ _ _ => N7
        exact ⟨g', _, _, T', F7, N7, fun p hp _ => .tail _ (hs9 _ hp (by simp)), .inl ⟨hh, _, rfl⟩, rfl, rfl, rfl⟩
      all_goals (try (exfalso; rename (x == x) = false => hxx; simp at hxx; done))
    · refine hushL ?_
      intro hG
      obtain ⟨t7, B7, H, R, es, n7, hm⟩ := Ask9.of B F9 DD XB TB (.inr (.inr rfl)) up R9
      k_unfold
      clear hG
      refine land9 (base := base) rfl rfl R fun h' R' => ?_
      refine handle_yes H R' (by with_unfolding_all rfl) fun h'' R'' => ?_
      refine hushL ?_
      intro hG
      obtain ⟨g', oe, vs, T', F', K', N', _⟩ := ground9 H.K H.F H.DD H.BG H.hl R''
      k_unfold
      clear hG
      have X' := XB.keeps K'.stays
      have TT' := TB.keeps K'.stays
      k_steps
      rename Fr g' _ _ _ => F6
      rename News g' _ _ _ => N6
      exact ⟨g', _, _, T', F6, N6, fun p hp _ => .tail _ (hs9 _ hp (by simp)), .inr (.inr ⟨hh, hne, _, rfl⟩), rfl, rfl, rfl⟩
end J_S9
example : True := by
  k_with_none
  (k_with "call ref" => refine stop_ref rfl ?_)
  (k_with "eval ListComp" => with_reducible refine stopP0 ?_)
  (k_with "exec For" => with_reducible refine stopP1 ?_)
  (k_with "exec Assign cons ListComp" => with_reducible refine stopP2 ?_)
  (k_with "call type:bytes" => (with_reducible show wpAny _ _ (call (Value.type "bytes") [Value.bytes _ _]) _ _ _; refine bytes_bytes ?_))
  (k_with "subscriptTail" => (with_reducible show wpAny _ _ (subscriptTail _ _ (Value.ref _) (Value.str _ _)) _ _ _; refine' kda_item (knd := PySem.strKind _ _) ?iN ?im ?ih (strKind_is _ _ _ _) ?iv ?_; (case iN => assumption); (case im => assumption); (case ih => assumption); (case iv => with_unfolding_all rfl)))
  (k_with "binaryOp Add bytes bytes" => ((with_reducible show wpAny _ _ (binaryOp Operator.Add (Value.bytes _ _) (Value.bytes _ _)) _ _ _); (refine KBy.add_bytes (by first | assumption | ((try simp only [Array.size_append, List.size_toArray, List.length_cons, List.length_nil]); omega)) ?_); intro _ _))
  (k_with "call builtin:len" => ((with_reducible show wpAny _ _ (call (Value.builtin "len") [Value.bytes _ _]) _ _ _); (refine len_bytes (by first | assumption | omega) ?_)))
  trivial
example {M : Model} {A : Around} {Q : Unit → Shared → Prop} {E : Value → Shared → Prop} {s : Shared} : wpAny M A (pure ()) Q E s ∨ True := by w_top off; first | (left; walk1; done) | (right; trivial)
section J_S10
example : True := by
  (k_with "compareOp Eq bytes bytes" => first | (refine eq_bytesV (v := true) ?h0 ?_; (case h0 => assumption)) | (refine eq_bytesV (v := false) ?h0 ?_; (case h0 => assumption)))
  trivial
noncomputable def KRow (news : Led) (M : List Addr) (r : Rec) : Prop := ∃ t gv, Off news M r.κ (tup2 (.bytes (byK r.k) t) gv) ∧ (match r.goal with
  | none => gv = .none
  | some g => ∃ t, gv = .bytes (idA g) t)
theorem KRow.to {news news' : Led} {M S : List Addr} {r : Rec} (h : KRow news M r) (hS : ∀ x ∈ S, x ∈ M) (kp : ∀ p ∈ news, p.1 ∉ S → p ∈ news') : KRow news' M r := by
  refine hushL ?_
  intro hG
  obtain ⟨t, gv, m, x⟩ := h
  k_unfold
  clear hG
  exact ⟨t, gv, m.to hS kp, x⟩
noncomputable def KnownIn (w : World) (news : Led) (M : List Addr) (kw : Addr) (rs : List Rec) : Prop := KnIn w news kw (rs.map fun r => (idL r.n, .ref r.κ)) ∧ ∀ r ∈ rs, KRow news M r
theorem KnownIn.to {w : World} {news news' : Led} {M S : List Addr} {kw : Addr} {rs : List Rec} (h : KnownIn w news M kw rs) (hk : kw ∉ S) (hS : ∀ x ∈ S, x ∈ M) (kq : ∀ p ∈ news, p.1 ∉ S → p ∈ news') : KnownIn w news' M kw rs :=
  ⟨h.1.to hk kq, fun r hr => (h.2 r hr).to hS kq⟩
noncomputable def rankR (rs : List Rec) (r : Rec) : Nat := (rs.filter fun x => decide (x.n < r.n)).length
theorem filter_lt {α : Type} {p q : α → Bool} : ∀ {l : List α}, (∀ x, p x = true → q x = true) → ∀ {y : α}, y ∈ l → q y = true → p y = false → (l.filter p).length < (l.filter q).length
  | a :: l, h, y, hy, h1, h2 => by
    have le : ∀ l : List α, (l.filter p).length ≤ (l.filter q).length := fun l => by
      induction l with
      | nil => exact Nat.le_refl _
      | cons b l ih =>
        cases hp : p b with
        | true => simp [List.filter_cons, hp, h b hp]; exact ih
        | false => cases hq : q b <;> simp [List.filter_cons, hp, hq] <;> omega
    rcases List.mem_cons.mp hy with rfl | hy
    · simp only [List.filter_cons, h1, h2, if_true, List.length_cons]
      have := le l
      simp only [Bool.false_eq_true, if_false]
      omega
    · have := filter_lt (l := l) h hy h1 h2
      cases hp : p a with
      | true => simp [List.filter_cons, hp, h a hp]; exact this
      | false => cases hq : q a <;> simp [List.filter_cons, hp, hq] <;> omega
theorem rank_lt {rs : List Rec} {r r' : Rec} (hr : r' ∈ rs) (h : r'.n < r.n) : rankR rs r' < rankR rs r :=
  filter_lt (fun x hx => by simp only [decide_eq_true_eq] at hx ⊢; omega) hr (by simpa using h) (by simp)
theorem fits_spec (c : Cx) (a : Ads) (rs : List Rec) (gone : Nat) (kd : Nat) (hkd : kd < 4) : ∀ (m : Nat) (r : Rec) (t t2 : Tok) (b : Bool) (news : Led), Frame9 news a → RecsOk rs → KnownIn c.w news a.muts a.kw rs → Wd c.w news a gone → r ∈ rs → rankR rs r < m → Fits rs kd r b →
   Spec c 573 (3 * m) (30 * m) [.ref a.wd, .bytes (idA r.n) t, .bytes (byK kd) t2] news [] (fun v n => (∀ p ∈ news, p ∈ n) ∧ v = .bool b)
  | 0, _, _, _, _, _, _, _, _, _, _, h, _ => absurd h (Nat.not_lt_zero _)
  | m + 1, r, t, t2, b, news, hF, hO, hK, hW, hr, hm, hb => by
    refine' enter (binds := [(Str.ofString "w", .ref a.wd), (Str.ofString "oid", .bytes (idA r.n) t), (Str.ofString "kind", .bytes (byK kd) t2)]) ?k6 ?k7 ?k9 ?kB ?c2 ?c3 ?c4 ?c5 ?_
    ((case k6 => k_is); (case k7 => k_is); (case k9 => intro s9 X9; first | exact BindsTo.of_eq rfl | exact binds_K X9 rfl (by k_is) rfl rfl rfl); (case kB => exact locs rfl); (case c2 => exact rfl); (case c3 => exact rfl); (case c4 => exact rfl); (case c5 => decide); skip)
    intro dp un gd outer A₀ base g L' h₁ tk s C hd9 hu9; obtain ⟨B, F, X, N, T, hk9⟩ := C; (try dsimp only); k_fold; (try (refine letA (P := fun A9 => wpAny _ A9 _ _ _ _) _ ?_; intro A9))
    refine hushL ?_
    intro hG
    obtain ⟨⟨o, m3, hd⟩, hrow⟩ := hK
    k_unfold
    clear hG
    refine hushL ?_
    intro hG
    obtain ⟨ow, tw, m4, hdw⟩ := hW
    k_unfold
    clear hG
    refine hushL ?_
    intro hG
    obtain ⟨tK, gv, ⟨m5, _⟩, hg⟩ := hrow r hr
    k_unfold
    clear hG
    have hv := hO.val (fun r => .ref r.κ) hr
    have e1 : ((byK r.k).toList == (byK kd).toList) = decide (r.k = kd) := byK_inj ⟨r.k, hO.k4 r hr⟩ ⟨kd, hkd⟩
    k_steps
    dsimp only
    refine item_at (knd := KB c.w) (by assumption) m3 hd (keyB _ _) (by rw [idA_toList]; exact hv) ?_
    by_cases hkk : r.k = kd
    · rw [decide_eq_true hkk] at e1
      k_steps
      rename Fr _ _ _ _ => F8
      rename News _ _ _ _ => N8
      have hb1 : b = true := by
        cases hb with
        | hit _ _ => rfl
        | no _ h _ => exact absurd hkk h
        | go _ h _ _ _ _ _ _ => exact absurd hkk h
      exact ⟨_, _, F8, N8, fun p hp _ => hp, ⟨fun p hp => hp, by rw [hb1]; rfl⟩, rfl, rfl, rfl⟩
    · rw [decide_eq_false hkk] at e1
      k_steps
      rename Fr _ _ _ _ => F1
      rename News _ _ _ _ => N1
      have hkc : (kd = 0 ∨ kd = 3) ∨ (kd = 1 ∨ kd = 2) := by omega
      rcases hkc with hkc | hkc
      · refine in_bt (v := false) ⟨_, (N1 _ (.head _)).1, rfl, 0, rfl⟩ (by rcases hkc with rfl | rfl <;> decide) ?_
        k_steps
        have hb0 : b = false := by
          cases hb with
          | hit _ h => exact absurd h hkk
          | no _ _ _ => rfl
          | go _ _ h => omega
        exact ⟨_, _, F1, N1, fun p hp _ => .tail _ hp, ⟨fun p hp => .tail _ hp, by rw [hb0]; rfl⟩, rfl, rfl, rfl⟩
      · refine in_bt (v := true) ⟨_, (N1 _ (.head _)).1, rfl, 0, rfl⟩ (by rcases hkc with rfl | rfl <;> decide) ?_
        cases hgo : r.goal with
        | none =>
          rw [hgo] at hg
          obtain rfl : gv = .none := hg
          k_steps
          have hb0 : b = false := by
            cases hb with
            | hit _ h => exact absurd h hkk
            | no _ _ _ => rfl
            | go _ _ _ _ _ h => rw [hgo] at h; cases h
          exact ⟨_, _, F1, N1, fun p hp _ => .tail _ hp, ⟨fun p hp => .tail _ hp, by rw [hb0]; rfl⟩, rfl, rfl, rfl⟩
        | some g9 =>
          rw [hgo] at hg
          obtain ⟨tg, rfl⟩ := hg
          refine hushL ?_
          intro hGG
          obtain ⟨r2, hr2, rfl, hlt, _, hf2⟩ := hb.step hO hr hkk hkc hgo
          k_unfold
          clear hGG
          k_steps
          unfold Stop9
          have hrk := rank_lt hr2 hlt
          refine' Spec.use (fits_spec c a rs gone kd hkd m r2 tg t2 b _ (hF.to (S := []) (by simp) (fun p hp _ => .tail _ hp)) hO (KnownIn.to (S := []) ⟨⟨o, m3, hd⟩, hrow⟩ (by simp) (by simp) (fun p hp _ => .tail _ hp)) ⟨ow, tw, .tail _ m4, hdw⟩ hr2 (by omega) hf2) ?sB ?sF ?sX ?sN ?sT ?sk ?sd ?su ?_
          ((case sB => assumption); (case sF => assumption); (case sX => assumption); (case sN => assumption); (case sT => assumption); (case sk => first | rfl | assumption); (case sd => (first | (refine' room9 ?rh ?rk; (case rh => assumption); (case rk => rfl)) | (refine' room1 ?rh ?rk; (case rh => assumption); (case rk => rfl)) | omega)); (case su => (first | (refine' room9 ?rh ?rk; (case rh => assumption); (case rk => rfl)) | (refine' room1 ?rh ?rk; (case rh => assumption); (case rk => rfl)) | omega)))
          rintro v n9 h9 t9 ⟨hs8, rfl⟩ hs9 F9 N9 K9
          dsimp only
          k_steps
          exact ⟨_, n9, F9, N9, fun p hp _ => hs8 p (.tail _ hp), ⟨fun p hp => hs8 p (.tail _ hp), rfl⟩, rfl, rfl, rfl⟩
end J_S10
example : True := by
  k_with_none
  (k_with "call ref" => refine stop_ref rfl ?_)
  (k_with "eval ListComp" => with_reducible refine stopP0 ?_)
  (k_with "exec For" => with_reducible refine stopP1 ?_)
  (k_with "exec Assign cons ListComp" => with_reducible refine stopP2 ?_)
  (k_with "call type:bytes" => (with_reducible show wpAny _ _ (call (Value.type "bytes") [Value.bytes _ _]) _ _ _; refine bytes_bytes ?_))
  (k_with "subscriptTail" => (with_reducible show wpAny _ _ (subscriptTail _ _ (Value.ref _) (Value.str _ _)) _ _ _; refine' kda_item (knd := PySem.strKind _ _) ?iN ?im ?ih (strKind_is _ _ _ _) ?iv ?_; (case iN => assumption); (case im => assumption); (case ih => assumption); (case iv => with_unfolding_all rfl)))
  (k_with "binaryOp Add bytes bytes" => ((with_reducible show wpAny _ _ (binaryOp Operator.Add (Value.bytes _ _) (Value.bytes _ _)) _ _ _); (refine KBy.add_bytes (by first | assumption | ((try simp only [Array.size_append, List.size_toArray, List.length_cons, List.length_nil]); omega)) ?_); intro _ _))
  (k_with "call builtin:len" => ((with_reducible show wpAny _ _ (call (Value.builtin "len") [Value.bytes _ _]) _ _ _); (refine len_bytes (by first | assumption | omega) ?_)))
  trivial
example {M : Model} {A : Around} {Q : Unit → Shared → Prop} {E : Value → Shared → Prop} {s : Shared} : wpAny M A (pure ()) Q E s ∨ True := by w_top off; first | (left; walk1; done) | (right; trivial)
section J_D1
/-- as «Spec», with what is known of the heap that lies below -/
noncomputable def SpecB (P : Heap → Prop) (c : Cx) (f : Addr) (d u : Nat) (vs : List Value) (news : Led) (S : List Addr) (R : Value → Led → Prop) : Prop :=
  ∀ (dp un : Nat) (gd : Option (List Code)) (cn : Str) (cs : Scope) (a : Addr) (ccd : Value) (cl : List (Str × Addr)) (outer : List Env) (A₀ : Around) (base h₀ : Heap) (L : Addr) (m : Str → Option Value) (s : Shared) (Q E : Value → Shared → Prop),
    At c dp un gd cn cs a ccd cl outer A₀ base h₀ L m s.heap news → P base → dp + d < recursionLimit → un + u < cLine →
    (∀ r news' h' tk', R r news' → (∀ p ∈ news, p.1 ∉ S → p ∈ news') → Fr h₀ L h' m → News h₀ L h' news' → KeepsBut S s.heap h' → Q r { s with heap := h', toks := tk' }) →
    wpAny (model PySem.Challenge.rw_pb0121_01.row.prog c.w) (ktrTop dp un gd cn cs L a ccd cl outer) (call (.ref f) vs) Q E s
theorem enterB {P : Heap → Prop} {c : Cx} {f : Addr} {d u : Nat} {vs : List Value} {news : Led} {S : List Addr} {R : Value → Led → Prop} {name qual : Str} {params : Arguments} {body : List Stmt} {scope : Scope} {dV kV doc pm cdv ct oc : Value} {an od : Option Addr} {osl : Array (Option Value)} {binds : List (Str × Value)}
    (ho : (hd.heap_1 c.w.params).lookup f = some ⟨oc, od, .func (fnOf name qual params body scope dV kV doc pm an cdv ct), osl⟩) (hcd : codeIn (hd.heap_1 c.w.params) cdv qual = true)
    (hbind : ∀ s : Shared, (hd.heap_1 c.w.params).In s.heap → BindsTo s (fnOf name qual params body scope dV kV doc pm an cdv ct) ⟨vs, []⟩ binds) (hloc : ∀ y ∈ binds, scope.names.lookup y.1 = some .local)
    (hco : scope.isCoroutine = false) (hgen : scope.isGenerator = false) (hk : scope.kind = .function) (hcell : ∀ x ∈ scope.names, x.2 ≠ .cell)
    (h : ∀ (dp un : Nat) (gd : Option (List Code)) (outer : List Env) (A₀ : Around) (base g : Heap) (L' : Addr) (h₁ : Heap) (tk : Nat) (s : Shared),
      At c dp un gd qual scope f cdv [] outer A₀ base g L' (fun y => binds.reverse.lookup y) h₁ news → P base → dp + d < recursionLimit + 1 → un + u < cLine + 3 →
      wpAny (model PySem.Challenge.rw_pb0121_01.row.prog c.w) (ktrTop dp un gd qual scope L' f cdv [] outer) (execs body (envX qual scope L' f cdv [])) (Fin9 g L' news S R s) (fun _ _ => False) { s with heap := h₁, toks := tk }) :
    SpecB P c f d u vs news S R := by
  intro dp un gd cn cs a ccd cl outer A₀ base h₀ L m s Q E C hP hd9 hu9 hret
  refine hushL ?_
  intro hG
  obtain ⟨B, F, X, N, T, hk9⟩ := C
  k_unfold
  clear hG
  refine wpAny_call ?_
  refine code_defG B F X N T rfl rfl hk9 ho hcd ?_ (hbind s (X.keeps F.keep)) hloc ?_ hco hgen hk hcell
  · show dp < recursionLimit
    omega
  · intro g L' h₁ FG F' N' B' X' T' kG
    have z := h (dp + 1) (un + 3) gd (envX cn cs L a ccd cl :: outer) _ base g L' h₁ (s.toks + binds.length) s
      ⟨B', F', X', N', T', hk⟩ hP (by omega) (by omega)
    refine wpAny_mono z (fun fl s' hf => ?_) (fun e s' he => ?_)
    · have q := fin_out (h₀ := h₀) (L := L) (m := m) (fun _ _ => .inr trivial) N kG hret hf
      refine hushL ?_
      intro hG
      obtain ⟨L9, m9, n9, F9, N9, k9⟩ := q
      k_unfold
      clear hG
      refine ⟨L9, m9, n9, F9, N9, fun a b => ?_⟩
      have := k9 a b
      cases fl <;> exact this
    · exact he.elim
example : True := by
  (k_with "subscriptTail" => with_reducible refine stopP16 ?_)
  trivial
theorem ints_item : ∀ {ws : List Value} {ns : List Int} {i : Nat} {v : Value}, IntsAre ws ns → ws.toArray[i]? = some v → ∃ k t, v = .int k t
  | _, _, i, v, h, e => by
    rw [List.getElem?_toArray] at e
    have hi : i < _ := (List.getElem?_eq_some_iff.mp e).1
    rw [h.length] at hi
    obtain ⟨t, ht⟩ := h.get i _ (List.getElem?_eq_getElem hi)
    rw [ht] at e
    exact ⟨_, t, (Option.some.inj e).symm⟩
theorem vs_eq {vs ws : List Value} (hlen : vs.length = ws.toArray.size) (hP : ∀ (j : Nat) (v : Value), vs[j]? = some v → ws.toArray[j]? = some v) : vs = ws := by
  refine List.ext_getElem? fun j => ?_
  by_cases hj : j < vs.length
  · have := hP j vs[j] (List.getElem?_eq_getElem hj)
    rw [List.getElem?_toArray] at this
    rw [this, List.getElem?_eq_getElem hj]
  · rw [List.getElem?_eq_none (by omega), List.getElem?_eq_none (by simp at hlen; omega)]
theorem ints_mod {ws ys : List Value} {ns : List Int} (h : IntsAre ws ns) (r : Paired (fun v y => ∃ k t t', v = Value.int k t ∧ y = Value.int (k.fmod 1000003) t') ws ys) : IntsAre ys (ns.map fun k => k.fmod 1000003) := by
  induction h generalizing ys with
  | nil => cases r; exact .nil
  | cons k t h ih =>
    cases r with
    | cons a b =>
      refine hushL ?_
      intro hGG
      obtain ⟨k', t1, t2, e1, e2⟩ := a
      k_unfold
      clear hGG
      cases e1
      subst e2
      exact .cons _ _ (ih b)
theorem fr_int {h₀ h : Heap} {L : Addr} {n : Str} {k : Int} {t : Tok} {M : Str → Option Value} (F : Fr h₀ L h (fun z => if z = n then some (.int k t) else M z)) : ∃ t', Fr h₀ L h (fun z => if z = n then some (.int k t') else M z) := ⟨t, F⟩
noncomputable def DeckJ (NX : Led) (MM : Int → Tok → Str → Option Value) (_ : Nat) (m : Str → Option Value) (nx : Led) : Prop :=
  nx = NX ∧ ∃ x t, 0 ≤ x ∧ x < 1000003 ∧ ∀ z, z ≠ Str.ofString "cell" → m z = MM x t z
theorem deck_spec (c : Cx) (l : Addr) (vs : List Value) (ns : List Int) (news : Led) (hi : IntsAre vs ns) (hn : ns.length ≤ 63) :
   SpecB (fun base => base.IsList l vs.toArray) c 540 5 100 [.ref l] news [] (fun v n => ∃ d l', v = .ref d ∧ (∀ p ∈ news, p ∈ n) ∧ DeckIn c.w n d l' ∧ (∀ p ∈ news, p.1 ≠ d ∧ p.1 ≠ l')) := by
  refine' enterB (binds := [(Str.ofString "script", .ref l)]) ?k6 ?k7 ?k9 ?kB ?c2 ?c3 ?c4 ?c5 ?_
  ((case k6 => k_is); (case k7 => k_is); (case k9 => intro s9 X9; first | exact BindsTo.of_eq rfl | exact binds_K X9 rfl (by k_is) rfl rfl rfl); (case kB => exact locs rfl); (case c2 => exact rfl); (case c3 => exact rfl); (case c4 => exact rfl); (case c5 => decide); skip)
  intro dp un gd outer A₀ base g L' h₁ tk s C hP hd9 hu9; obtain ⟨B, F, X, N, T, hk9⟩ := C; (try dsimp only); k_fold; (try (refine letA (P := fun A9 => wpAny _ A9 _ _ _ _) _ ?_; intro A9))
  have hlg : g.IsList l vs.toArray := hP.at fun o e => B.stays _ _ e
  have hl : h₁.IsList l vs.toArray := hlg.at fun o e => F.keep _ _ e
  k_steps
  unfold Stop9
  refine' comp_val (h₀ := g) (fun _ => true) (fun v y => ∃ k t t', v = Value.int k t ∧ y = Value.int (k.fmod 1000003) t') ?hh ?h0 ?h1 ?h2 ?h3 ?h4 ?h9 ?h5
  case hh => rfl
  case h0 => rfl
  case h1 => decide
  case h2 => rfl
  case h3 => decide
  case h4 => rfl
  case h5 => intro _; rfl
  refine stopEnd ?_
  k_steps
  rename Fr _ _ _ _ => F2
  rename News _ _ _ _ => N2
  rename IntsAre _ (List.take 24 ns) => hI
  have hI2 := hI.length
  refine unstop ⟨_, _, _, _, _, F2, N2, src_list (N2.isList (.head _)), ?_, testsOf_nil, ?_, ?_⟩
  · simp only [List.size_toArray]; rw [hI2, List.length_take]; omega
  · intro C i v s₃ m₃ zz7 hnn hm hC F3 N3 hk3
    refine hushL ?_
    intro hG
    obtain ⟨hv, _⟩ := zz7
    k_unfold
    clear hG
    obtain ⟨k, t9, rfl⟩ := ints_item hI hv
    refine stopEnd ?_
    k_steps
    exact unstop ⟨⟨_, _, _, rfl, rfl⟩, _, _, rfl, fun _ _ e => e⟩
  · intro D h' tk ys ep vs9 F3 N3 hD hL hlen hPP hF hk
    have hv9 : vs9 = _ := vs_eq hlen hPP
    have hI3 := ints_mod hI (by rw [← hv9]; rw [List.filter_eq_self.mpr (by simp)] at hF; exact hF)
    have hI4 : True ∧ IntsAre ys.toList ((List.take 24 ns).map fun k => k.fmod 1000003) := ⟨trivial, hI3⟩
    clear F2 N2 hI3 hI hi
    dsimp only at F3 N3 hL
    k_steps
    unfold Stop9
    rename Fr _ _ _ _ => F4
    rename News _ _ _ _ => N4
    refine For_invVF F4 rfl rfl ?_
    refine nameX_L F4 rfl ?_
    have hbd : ∀ k ∈ (List.take 24 ns).map fun k => k.fmod 1000003, 0 ≤ k ∧ k < 1000003 := fun k hk => by
      obtain ⟨k', _, rfl⟩ := List.mem_map.mp hk
      exact ⟨Int.fmod_nonneg_of_pos _ (by omega), Int.fmod_lt_of_pos _ (by omega)⟩
    obtain ⟨MM, hMM, F4⟩ : ∃ MM : Int → Tok → Str → Option Value, (MM = fun x t y => if y = Str.ofString "left" then some (Value.ref D) else if y = Str.ofString "mixed" then some (Value.int x t) else List.lookup y [(Str.ofString "script", Value.ref l)].reverse) ∧ Fr g L' _ (MM 10007 _) := ⟨_, rfl, F4⟩
    obtain ⟨NX, hNX⟩ : ∃ NX, NX = (D, listOf ys ep) :: news := ⟨_, rfl⟩
    replace N4 := News.sub (news' := NX) N4 (fun p hp => .tail _ (by subst hNX; rcases List.mem_cons.mp hp with rfl | hp; exact .head _; exact .tail _ (.tail _ hp)))
    refine' for_goQ (DeckJ NX MM) ?fh ?fs ?fL ?fF ?fN ⟨rfl, 10007, _, by omega, by omega, fun _ _ => rfl⟩ ?_ ?_
    case fF => exact F4
    case fN => exact N4
    case fh => rfl
    case fs => exact src_list (N4.isList (by subst hNX; exact .head _))
    case fL => intro hm; exact hL (List.mem_singleton.mp hm).symm
    · intro I i v m₁ nx h tk own QT hi hv zy23 hnI hown F5 N5 hQT
      refine hushL ?_
      intro hGG
      obtain ⟨rfl, x, tx, hx0, hx1, hm⟩ := zy23
      k_unfold
      clear hGG
      clear F4 N4
      obtain ⟨k, t9, hk9, rfl⟩ : ∃ (k : Int) (t : Tok), (0 ≤ k ∧ k < 1000003) ∧ v = .int k t := by
        obtain ⟨k, t, rfl⟩ := ints_item (ws := ys.toList) hI4.2 (by simpa using hv)
        have hi' : i < ((List.take 24 ns).map fun k => k.fmod 1000003).length := by rw [← hI4.2.length]; simpa using hi
        obtain ⟨t', ht⟩ := hI4.2.get i _ (List.getElem?_eq_getElem hi')
        have e9 : ys.toList[i]? = some (.int k t) := by simpa using hv
        rw [ht] at e9
        cases e9
        exact ⟨_, _, hbd _ (List.getElem_mem hi'), rfl⟩
      rw [map_none hm, hMM] at F5
      dsimp only at F5 N5
      k_steps
      rename Fr _ _ _ _ => F6
      rename News _ _ _ _ => N6
      obtain ⟨tt, F6⟩ := fr_int F6
      refine hQT _ _ _ _ _ F6 N6 (fun p hp => List.mem_append_left _ hp) (fun p hp => List.mem_append_right _ hp) hnI ⟨rfl, (x * 31 + k + 1).fmod 1000003, tt, Int.fmod_nonneg_of_pos _ (by omega), Int.fmod_lt_of_pos _ (by omega), fun z hz => ?_⟩
      by_cases hz2 : z = Str.ofString "mixed"
      · subst hz2; simp only [hMM]; rfl
      · simp only [hMM, if_neg hz2, if_neg hz]
    · intro m₁ nx h tk zy24 F5 N5
      refine hushL ?_
      intro hGG
      obtain ⟨rfl, x, tx, hx0, hx1, hm⟩ := zy24
      k_unfold
      clear hGG
      clear F4 N4
      rw [← done_none hm, hMM] at F5
      dsimp only at F5 N5
      k_steps
      rename Fr _ _ _ _ => F6
      rename News _ _ _ _ => N6
      rename Obj.IsDictOf _ _ _ => hd6
      rename ∀ p ∈ nx, p.1 < _ => l6
      subst hNX
      refine ⟨_, _, F6, N6, fun p hp _ => .tail _ (.tail _ hp), ⟨_, D, rfl, fun p hp => .tail _ (.tail _ hp), ⟨_, ys.toList, _, ep, x, tx, .head _, hd6, .tail _ (.head _), hI4.2, hbd, ?_, hx0, hx1, Ne.symm (Nat.ne_of_lt (l6 _ (.head _)))⟩, fun p hp => ⟨Nat.ne_of_lt (l6 p (.tail _ hp)), ?_⟩⟩, rfl, rfl, rfl⟩
      · rw [List.length_map, List.length_take]; omega
      · exact hD p (.tail _ hp)
end J_D1
example : True := by
  k_with_none
  (k_with "call ref" => refine stop_ref rfl ?_)
  (k_with "eval ListComp" => with_reducible refine stopP0 ?_)
  (k_with "exec For" => with_reducible refine stopP1 ?_)
  (k_with "exec Assign cons ListComp" => with_reducible refine stopP2 ?_)
  (k_with "call type:bytes" => (with_reducible show wpAny _ _ (call (Value.type "bytes") [Value.bytes _ _]) _ _ _; refine bytes_bytes ?_))
  (k_with "subscriptTail" => (with_reducible show wpAny _ _ (subscriptTail _ _ (Value.ref _) (Value.str _ _)) _ _ _; refine' kda_item (knd := PySem.strKind _ _) ?iN ?im ?ih (strKind_is _ _ _ _) ?iv ?_; (case iN => assumption); (case im => assumption); (case ih => assumption); (case iv => with_unfolding_all rfl)))
  (k_with "binaryOp Add bytes bytes" => ((with_reducible show wpAny _ _ (binaryOp Operator.Add (Value.bytes _ _) (Value.bytes _ _)) _ _ _); (refine KBy.add_bytes (by first | assumption | ((try simp only [Array.size_append, List.size_toArray, List.length_cons, List.length_nil]); omega)) ?_); intro _ _))
  (k_with "call builtin:len" => ((with_reducible show wpAny _ _ (call (Value.builtin "len") [Value.bytes _ _]) _ _ _); (refine len_bytes (by first | assumption | omega) ?_)))
  trivial
example {M : Model} {A : Around} {Q : Unit → Shared → Prop} {E : Value → Shared → Prop} {s : Shared} : wpAny M A (pure ()) Q E s ∨ True := by w_top off; first | (left; walk1; done) | (right; trivial)
section J_P1
theorem fig_lt {k : Nat} (h : k < 16) : fig k < 128 := by unfold fig; split <;> omega
theorem hexL_len (l : List UInt8) : (hexL l).length = 2 * l.length := by
  induction l with
  | nil => rfl
  | cons a l ih => simp only [hexL, List.flatMap_cons, List.length_append, List.length_cons, List.length_nil] at ih ⊢; omega
theorem hexL_lt (l : List UInt8) : ∀ k ∈ hexL l, k < 128 := by
  intro k hk
  refine hushL ?_
  intro hG
  obtain ⟨c, _, hc⟩ := List.mem_flatMap.mp hk
  k_unfold
  clear hG
  have := c.toNat_lt
  simp only [List.mem_cons, List.not_mem_nil, or_false] at hc
  rcases hc with rfl | rfl
  · exact fig_lt (by omega)
  · exact fig_lt (by omega)
inductive PersonD (news : Led) (M : List Addr) (dp : Addr) : Prop
  | mk (h1 : Int) (t1 : Tok) (t2 : Tok) (h2 : Int) (t3 : Tok) (t4 : Tok) (h3 : Int) (t5 : Tok) (t6 : Tok) (h4 : Int) (t7 : Tok) (t8 : Tok) (n : Nat) (x9 : Off news M dp (dictOf [⟨h1, .str (Str.ofString "name") t1, .bytes #[97] t2⟩, ⟨h2, .str (Str.ofString "email") t3, .bytes #[97] t4⟩, ⟨h3, .str (Str.ofString "when") t5, .int 9 t6⟩, ⟨h4, .str (Str.ofString "zone") t7, .bytes #[43, 48, 48, 48, 48] t8⟩] n)) : PersonD news M dp
noncomputable def PersonIn (news : Led) (M : List Addr) (p dp : Addr) : Prop :=
  Off news M p (instObj 163 dp) ∧ PersonD news M dp
theorem PersonIn.to {news news' : Led} {M S : List Addr} {p dp : Addr} (h : PersonIn news M p dp) (hS : ∀ x ∈ S, x ∈ M) (k : ∀ p ∈ news, p.1 ∉ S → p ∈ news') : PersonIn news' M p dp := by
  refine hushL ?_
  intro hG
  obtain ⟨a, h1, t1, t2, h2, t3, t4, h3, t5, t6, h4, t7, t8, n, b⟩ := h
  k_unfold
  clear hG
  exact ⟨a.to hS k, h1, t1, t2, h2, t3, t4, h3, t5, t6, h4, t7, t8, n, b.to hS k⟩
noncomputable def persB : Array UInt8 := #[97, 32, 60, 97, 62, 32, 57, 32, 43, 48, 48, 48, 48]
theorem oct_nine : octB (Str.ofString (toString (9 : Int))) = #[57] := by decide +kernel
theorem nine_ok : (Str.ofString (toString (9 : Int))).cps.size ≤ 1000 ∧ ∀ k ∈ (Str.ofString (toString (9 : Int))).cps.toList, k < 256 := by decide +kernel
theorem person_spec (c : Cx) (M : List Addr) (p dp : Addr) (news : Led) (hP : PersonIn news M p dp) :
   Spec c 160 6 60 [.ref p] news [] (fun r n' => n' = news ∧ ∃ t, r = .bytes persB t) := by
  refine' enter (binds := [(Str.ofString "self", .ref p)]) ?k6 ?k7 ?k9 ?kB ?c2 ?c3 ?c4 ?c5 ?_
  ((case k6 => k_is); (case k7 => k_is); (case k9 => intro s9 X9; first | exact BindsTo.of_eq rfl | exact binds_K X9 rfl (by k_is) rfl rfl rfl); (case kB => exact locs rfl); (case c2 => exact rfl); (case c3 => exact rfl); (case c4 => exact rfl); (case c5 => decide); skip)
  intro dpt un gd outer A₀ base g L' h₁ tk s C hd9 hu9; obtain ⟨B, F, X, N, T, hk9⟩ := C; (try dsimp only); k_fold; (try (refine letA (P := fun A9 => wpAny _ A9 _ _ _ _) _ ?_; intro A9))
  refine hushL ?_
  intro hG
  obtain ⟨⟨m1, _⟩, hz1, t1, t2, hz2, t3, t4, hz3, t5, t6, hz4, t7, t8, n, m2, _⟩ := hP
  k_unfold
  clear hG
  k_steps
  unfold Stop9
  refine' Spec.use (octets_spec c _ _ _ nine_ok.1 nine_ok.2) ?sB ?sF ?sX ?sN ?sT ?sk ?sd ?su ?_
  ((case sB => assumption); (case sF => assumption); (case sX => assumption); (case sN => assumption); (case sT => assumption); (case sk => first | rfl | assumption); (case sd => (first | (refine' room9 ?rh ?rk; (case rh => assumption); (case rk => rfl)) | (refine' room1 ?rh ?rk; (case rh => assumption); (case rk => rfl)) | omega)); (case su => (first | (refine' room9 ?rh ?rk; (case rh => assumption); (case rk => rfl)) | (refine' room1 ?rh ?rk; (case rh => assumption); (case rk => rfl)) | omega)))
  rintro r n9 h9 t9 ⟨rfl, tm, rfl⟩ hs9 F9 N9 K9
  rw [oct_nine]
  dsimp only
  k_steps
  exact ⟨_, _, F9, N9, fun p hp _ => hp, ⟨rfl, _, rfl⟩, rfl, rfl, rfl⟩
end J_P1
example {M : Model} {A : Around} {Q : Unit → Shared → Prop} {E : Value → Shared → Prop} {s : Shared} : wpAny M A (pure ()) Q E s ∨ True := by w_top off; first | (left; walk1; done) | (right; trivial)
section J_P2
inductive ComD (news : Led) (M : List Addr) (dc pl xl p : Addr) (g : Nat) (msg : Array UInt8) : Prop
  | mk (h1 : Int) (t1 : Tok) (t : Tok) (h2 : Int) (t2 : Tok) (h3 : Int) (t3 : Tok) (h4 : Int) (t4 : Tok) (h5 : Int) (t5 : Tok) (h6 : Int) (t6 : Tok) (v6 : Tok) (n : Nat) (x9 : Off news M dc (dictOf [⟨h1, .str (Str.ofString "tree") t1, .bytes (idA g) t⟩, ⟨h2, .str (Str.ofString "parents") t2, .ref pl⟩, ⟨h3, .str (Str.ofString "author") t3, .ref p⟩, ⟨h4, .str (Str.ofString "committer") t4, .ref p⟩, ⟨h5, .str (Str.ofString "extra") t5, .ref xl⟩, ⟨h6, .str (Str.ofString "message") t6, .bytes msg v6⟩] n)) : ComD news M dc pl xl p g msg
structure CommitIn (news : Led) (M : List Addr) (cm dc pl xl p dp : Addr) (g : Nat) (msg : Array UInt8) : Prop where
  obj : Off news M cm (instObj 310 dc)
  dict : ComD news M dc pl xl p g msg
  pl_ : ∃ n, (pl, listOf #[] n) ∈ news
  xl_ : ∃ n, (xl, listOf #[] n) ∈ news
  pers : PersonIn news M p dp
theorem src_nil {prog : Program} {w : World} {s₁ : Shared} {l : Addr} (hl : s₁.heap.IsList l #[]) : SrcOk prog w (.ref l) 0 (fun i v => (#[] : Array Value)[i]? = some v) [l] s₁ := src_list hl
theorem for_empty {prog : Program} {w : World} {A : Around} {E : Value → Shared → Prop} {env : Env} {xv : Value} {P : Nat → Value → Prop} {src : List Addr} {s₁ : Shared} {h₀ : Heap} {x : Str} {body : List Stmt} {Q : Flow → Shared → Prop} {m : Str → Option Value} {news : Led} (hh : A.handled = none)
    (hsrc : SrcOk prog w xv 0 P src s₁) (hL : env.locals ∉ src) (F : Fr h₀ env.locals s₁.heap m) (N : News h₀ env.locals s₁.heap news) (done : ∀ h tk, Fr h₀ env.locals h m → News h₀ env.locals h news → Q .next { s₁ with heap := h, toks := tk }) :
    wpAny (model prog w) A (pyIter xv) (fun it s₂ => LoopAtV prog w A h₀ env x body Q E it s₂) E s₁ :=
  for_goI (fun _ m' nx => m' = m ∧ nx = news) hh hsrc hL F N ⟨rfl, rfl⟩ (fun _ i _ _ _ _ _ _ hi => absurd hi (Nat.not_lt_zero i)) (fun m' nx h tk hj F' N' => by
    obtain ⟨rfl, rfl⟩ := hj
    exact done h tk F' N')
theorem out_pre {a msg : Array UInt8} {t : Tok} (h : a.size ≤ 100) : ∃ pre t', Value.bytes (a ++ (#[10] ++ msg)) t = .bytes (pre ++ #[10] ++ msg) t' ∧ pre.size ≤ 100 := ⟨a, t, by rw [Array.append_assoc], h⟩
theorem For_empty {prog : Program} {w : World} {A : Around} {E : Value → Shared → Prop} {env : Env} {s : Shared} {target iter : Expr} {body : List Stmt} {pos : Pos} {Q : Flow → Shared → Prop} (hh : A.handled = none)
    (h : wpAny (model prog w) A (eval iter env) (fun xv s₁ => ∃ l m news g n, xv = .ref l ∧ Fr g env.locals s₁.heap m ∧ News g env.locals s₁.heap news ∧ (l, listOf #[] n) ∈ news ∧ ∀ h' tk, Fr g env.locals h' m → News g env.locals h' news → Q .next { s₁ with heap := h', toks := tk }) E s)
    (hs : ∀ x, foldedSetIterable iter env x = pure x) : wpAny (model prog w) A (exec (.For target iter body [] pos) env) Q E s := by
  refine wpAny_For (wpAny_mono h (fun xv s₁ h₁ => ?_) fun _ _ e => e) hs
  refine hushL ?_
  intro hGG
  obtain ⟨l, m, news, g, n, rfl, F, N, hl, fin⟩ := h₁
  k_unfold
  clear hGG
  refine wpAny_pyIter_list (N.isList hl) ?_
  refine hushL ?_
  intro hG
  obtain ⟨F2, N2, l2⟩ := fresh_led F N (Heap.get?_push_size _ rfl) (fun b o e => Heap.get?_push_of_some ({ cls := .type "list_iterator", data := .fields #[.ref l, .int 0 0] } : Obj) e)
  k_unfold
  clear hG
  have hit : Heap.IsListIter _ s₁.heap.objs.size l 0 := ⟨_, (N2 _ (.head _)).1, rfl, rfl⟩
  refine codeAny_forLoop_any (fun _ s' => s' = { s₁ with heap := s₁.heap.push { cls := .type "list_iterator", data := .fields #[.ref l, .int 0 0] } }) ?_ 0 rfl
  rintro n s' rfl
  refine wpAny_pyNext_list_end hh hit (N2.isList (.tail _ hl)) rfl fun h' hx => ?_
  refine wpAny_execs_nil ?_
  have z := N2 _ (.head _)
  exact fin h' _ ⟨F2.ns.extBut hx (Ne.symm z.2.1), fun b o e => hx b o (fun q => by have := z.2.2; rw [← q, e] at this; cases this) (F2.keep b o e), F2.above⟩ fun q hq => ⟨hx q.1 _ (Nat.ne_of_lt (l2 q hq)) (N2 q (.tail _ hq)).1, (N2 q (.tail _ hq)).2⟩
theorem commit_octets (c : Cx) (M : List Addr) (cm dc pl xl p dp : Addr) (g : Nat) (msg : Array UInt8) (news : Led) (hP : CommitIn news M cm dc pl xl p dp g msg) (hm : msg.size ≤ 2) :
   Spec c 300 10 100 [.ref cm] news [] (fun r n' => (∀ p ∈ news, p ∈ n') ∧ ∃ pre t, r = .bytes (pre ++ #[10] ++ msg) t ∧ pre.size ≤ 100) := by
  refine' enter (binds := [(Str.ofString "self", .ref cm)]) ?k6 ?k7 ?k9 ?kB ?c2 ?c3 ?c4 ?c5 ?_
  ((case k6 => k_is); (case k7 => k_is); (case k9 => intro s9 X9; first | exact BindsTo.of_eq rfl | exact binds_K X9 rfl (by k_is) rfl rfl rfl); (case kB => exact locs rfl); (case c2 => exact rfl); (case c3 => exact rfl); (case c4 => exact rfl); (case c5 => decide); skip)
  intro dpt un gd outer A₀ base g9 L' h₁ tk s C hd9 hu9; obtain ⟨B, F, X, N, T, hk9⟩ := C; (try dsimp only); k_fold; (try (refine letA (P := fun A9 => wpAny _ A9 _ _ _ _) _ ?_; intro A9))
  refine hushL ?_
  intro hG
  obtain ⟨⟨m1, _⟩, ⟨hz1, t1, t, hz2, t2, hz3, t3, hz4, t4, hz5, t5, hz6, t6, v6, n, m2, _⟩, ⟨n1, m3⟩, ⟨n2, m4⟩, hPP⟩ := hP
  k_unfold
  clear hG
  k_steps
  unfold Stop9
  refine' Spec.use (hex_spec c _ _ _ (by rw [idA_size]; decide)) ?sB ?sF ?sX ?sN ?sT ?sk ?sd ?su ?_
  ((case sB => assumption); (case sF => assumption); (case sX => assumption); (case sN => assumption); (case sT => assumption); (case sk => first | rfl | assumption); (case sd => (first | (refine' room9 ?rh ?rk; (case rh => assumption); (case rk => rfl)) | (refine' room1 ?rh ?rk; (case rh => assumption); (case rk => rfl)) | omega)); (case su => (first | (refine' room9 ?rh ?rk; (case rh => assumption); (case rk => rfl)) | (refine' room1 ?rh ?rk; (case rh => assumption); (case rk => rfl)) | omega)))
  rintro r n9 h9 t9 ⟨rfl, tm, rfl⟩ hs9 F9 N9 K9
  dsimp only
  k_steps
  unfold Stop9
  have hh := hexL_lt (idA g).toList
  refine' Spec.use (octets_spec c (hexS (idA g)) _ _ (by show (hexL (idA g).toList).toArray.size ≤ 1000; rw [List.size_toArray, hexL_len, idA_toList]; simp [idL]) (fun k hk => Nat.lt_trans (hh k (by simpa [hexS] using hk)) (by decide))) ?sB ?sF ?sX ?sN ?sT ?sk ?sd ?su ?_
  ((case sB => assumption); (case sF => assumption); (case sX => assumption); (case sN => assumption); (case sT => assumption); (case sk => first | rfl | assumption); (case sd => (first | (refine' room9 ?rh ?rk; (case rh => assumption); (case rk => rfl)) | (refine' room1 ?rh ?rk; (case rh => assumption); (case rk => rfl)) | omega)); (case su => (first | (refine' room9 ?rh ?rk; (case rh => assumption); (case rk => rfl)) | (refine' room1 ?rh ?rk; (case rh => assumption); (case rk => rfl)) | omega)))
  rintro r n9 h9 t9 ⟨rfl, tm, rfl⟩ hs9 F9 N9 K9
  have hz8 : (octB (hexS (idA g))).size = 8 := by simp [octB, byteArr, hexS, hexL_len, idA]
  generalize octB (hexS (idA g)) = hb at hz8 ⊢
  dsimp only
  k_steps
  unfold Stop9
  rename Fr _ _ _ _ => F2
  rename News _ _ _ _ => N2
  refine' for_empty ?fh (src_nil (N2.isList (.tail _ m3))) ?fL F2 N2 ?_
  case fh => rfl
  case fL => intro hm; exact (N2 _ (.tail _ m3)).2.1 (List.mem_singleton.mp hm).symm
  intro h3 tk3 F3 N3
  clear F2 N2
  dsimp only at F3 N3
  refine hushL ?_
  intro hG
  obtain ⟨⟨m5, _⟩, hy1, u1, u2, hy2, u3, u4, hy3, u5, u6, hy4, u7, u8, n5, m6, _⟩ := id hPP
  k_unfold
  clear hG
  have hP2 : ∀ q, PersonIn (q :: n9) M p dp := fun q => hPP.to (S := []) (by simp) (fun p hp _ => .tail _ hp)
  k_steps
  unfold Stop9
  refine' Spec.use (person_spec c M p dp _ (hP2 _)) ?sB ?sF ?sX ?sN ?sT ?sk ?sd ?su ?_
  ((case sB => assumption); (case sF => assumption); (case sX => assumption); (case sN => assumption); (case sT => assumption); (case sk => first | rfl | assumption); (case sd => (first | (refine' room9 ?rh ?rk; (case rh => assumption); (case rk => rfl)) | (refine' room1 ?rh ?rk; (case rh => assumption); (case rk => rfl)) | omega)); (case su => (first | (refine' room9 ?rh ?rk; (case rh => assumption); (case rk => rfl)) | (refine' room1 ?rh ?rk; (case rh => assumption); (case rk => rfl)) | omega)))
  rintro r n10 h10 t10 ⟨rfl, tm, rfl⟩ hs10 F10 N10 K10
  clear F3 N3
  dsimp only
  k_steps
  unfold Stop9
  refine' Spec.use (person_spec c M p dp _ (hP2 _)) ?sB ?sF ?sX ?sN ?sT ?sk ?sd ?su ?_
  ((case sB => assumption); (case sF => assumption); (case sX => assumption); (case sN => assumption); (case sT => assumption); (case sk => first | rfl | assumption); (case sd => (first | (refine' room9 ?rh ?rk; (case rh => assumption); (case rk => rfl)) | (refine' room1 ?rh ?rk; (case rh => assumption); (case rk => rfl)) | omega)); (case su => (first | (refine' room9 ?rh ?rk; (case rh => assumption); (case rk => rfl)) | (refine' room1 ?rh ?rk; (case rh => assumption); (case rk => rfl)) | omega)))
  rintro r n11 h11 t11 ⟨rfl, tm, rfl⟩ hs11 F11 N11 K11
  dsimp only
  k_steps
  unfold Stop9
  rename Fr _ _ _ _ => F5
  rename News _ _ _ _ => N5
  refine For_empty rfl ?_ (fun _ => rfl)
  refine stopEnd ?_
  k_steps
  refine unstop ⟨xl, _, _, _, n2, rfl, F5, N5, .tail _ m4, fun h6 tk6 F6 N6 => ?_⟩
  dsimp only at F6 N6
  k_steps
  refine getM_join ?_
  rename Fr _ _ _ _ => F8
  rename News _ _ _ _ => N8
  dsimp only
  k_steps
  refine bj4 (N8.isList (.head _)) (by simp [hz8]) (by simp [persB]) (by simp [persB]) (by simp; omega) fun t' k => ?_
  k_steps
  exact ⟨_, _, F8, N8, fun p hp _ => .tail _ hp, ⟨fun p hp => .tail _ hp, out_pre (by simp [hz8, persB])⟩, rfl, rfl, rfl⟩
end J_P2
example {M : Model} {A : Around} {Q : Unit → Shared → Prop} {E : Value → Shared → Prop} {s : Shared} : wpAny M A (pure ()) Q E s ∨ True := by w_top off; first | (left; walk1; done) | (right; trivial)
section J_P3
inductive TagD (news : Led) (M : List Addr) (dc p : Addr) (g k : Nat) (msg : Array UInt8) : Prop
  | mk (h1 : Int) (t1 : Tok) (t : Tok) (h2 : Int) (t2 : Tok) (u2 : Tok) (h3 : Int) (t3 : Tok) (u3 : Tok) (h4 : Int) (t4 : Tok) (h5 : Int) (t5 : Tok) (u5 : Tok) (h6 : Int) (t6 : Tok) (u6 : Tok) (n : Nat) (x9 : Off news M dc (dictOf [⟨h1, .str (Str.ofString "target") t1, .bytes (idA g) t⟩, ⟨h2, .str (Str.ofString "kind") t2, .bytes (byK k) u2⟩, ⟨h3, .str (Str.ofString "name") t3, .bytes #[116] u3⟩, ⟨h4, .str (Str.ofString "tagger") t4, .ref p⟩, ⟨h5, .str (Str.ofString "message") t5, .bytes msg u5⟩, ⟨h6, .str (Str.ofString "signature") t6, .bytes #[] u6⟩] n)) : TagD news M dc p g k msg
structure TagIn (news : Led) (M : List Addr) (tg dc p dp : Addr) (g k : Nat) (msg : Array UInt8) : Prop where
  obj : Off news M tg (instObj 346 dc)
  dict : TagD news M dc p g k msg
  pers : PersonIn news M p dp
theorem byK_size (k : Nat) : (byK k).size ≤ 6 := by
  match k with
  | 0 => decide
  | 1 => decide
  | 2 => decide
  | k + 3 => exact (by decide : (3 : Nat) ≤ 6)
theorem signed_spec (c : Cx) (M : List Addr) (tg dc p dp : Addr) (g k : Nat) (msg : Array UInt8) (news : Led) (hP : TagIn news M tg dc p dp g k msg) (hm : msg.size ≤ 2) :
   Spec c 336 10 100 [.ref tg] news [] (fun r n' => (∀ p ∈ news, p ∈ n') ∧ ∃ pre t, r = .bytes (pre ++ #[10] ++ msg) t ∧ pre.size ≤ 100) := by
  refine' enter (binds := [(Str.ofString "self", .ref tg)]) ?k6 ?k7 ?k9 ?kB ?c2 ?c3 ?c4 ?c5 ?_
  ((case k6 => k_is); (case k7 => k_is); (case k9 => intro s9 X9; first | exact BindsTo.of_eq rfl | exact binds_K X9 rfl (by k_is) rfl rfl rfl); (case kB => exact locs rfl); (case c2 => exact rfl); (case c3 => exact rfl); (case c4 => exact rfl); (case c5 => decide); skip)
  intro dpt un gd outer A₀ base g9 L' h₁ tk s C hd9 hu9; obtain ⟨B, F, X, N, T, hk9⟩ := C; (try dsimp only); k_fold; (try (refine letA (P := fun A9 => wpAny _ A9 _ _ _ _) _ ?_; intro A9))
  refine hushL ?_
  intro hG
  obtain ⟨⟨m1, _⟩, ⟨hz1, t1, t, hz2, t2, u2, hz3, t3, u3, hz4, t4, hz5, t5, u5, hz6, t6, u6, n, m2, _⟩, hPP⟩ := hP
  k_unfold
  clear hG
  have hks := byK_size k
  generalize byK k = kb at hks m2
  k_steps
  unfold Stop9
  refine' Spec.use (hex_spec c _ _ _ (by rw [idA_size]; decide)) ?sB ?sF ?sX ?sN ?sT ?sk ?sd ?su ?_
  ((case sB => assumption); (case sF => assumption); (case sX => assumption); (case sN => assumption); (case sT => assumption); (case sk => first | rfl | assumption); (case sd => (first | (refine' room9 ?rh ?rk; (case rh => assumption); (case rk => rfl)) | (refine' room1 ?rh ?rk; (case rh => assumption); (case rk => rfl)) | omega)); (case su => (first | (refine' room9 ?rh ?rk; (case rh => assumption); (case rk => rfl)) | (refine' room1 ?rh ?rk; (case rh => assumption); (case rk => rfl)) | omega)))
  rintro r n9 h9 t9 ⟨rfl, tm, rfl⟩ hs9 F9 N9 K9
  dsimp only
  k_steps
  unfold Stop9
  have hh := hexL_lt (idA g).toList
  refine' Spec.use (octets_spec c (hexS (idA g)) _ _ (by show (hexL (idA g).toList).toArray.size ≤ 1000; rw [List.size_toArray, hexL_len, idA_toList]; simp [idL]) (fun k hk => Nat.lt_trans (hh k (by simpa [hexS] using hk)) (by decide))) ?sB ?sF ?sX ?sN ?sT ?sk ?sd ?su ?_
  ((case sB => assumption); (case sF => assumption); (case sX => assumption); (case sN => assumption); (case sT => assumption); (case sk => first | rfl | assumption); (case sd => (first | (refine' room9 ?rh ?rk; (case rh => assumption); (case rk => rfl)) | (refine' room1 ?rh ?rk; (case rh => assumption); (case rk => rfl)) | omega)); (case su => (first | (refine' room9 ?rh ?rk; (case rh => assumption); (case rk => rfl)) | (refine' room1 ?rh ?rk; (case rh => assumption); (case rk => rfl)) | omega)))
  rintro r n9 h9 t9 ⟨rfl, tm, rfl⟩ hs9 F9 N9 K9
  have hz8 : (octB (hexS (idA g))).size = 8 := by simp [octB, byteArr, hexS, hexL_len, idA]
  generalize octB (hexS (idA g)) = hb at hz8 ⊢
  refine hushL ?_
  intro hG
  obtain ⟨⟨m5, _⟩, hy1, v1, v2, hy2, v3, v4, hy3, v5, v6, hy4, v7, v8, n5, m6, _⟩ := id hPP
  k_unfold
  clear hG
  have hP2 : ∀ q, PersonIn (q :: n9) M p dp := fun q => hPP.to (S := []) (by simp) (fun p hp _ => .tail _ hp)
  dsimp only
  k_steps
  unfold Stop9
  refine' Spec.use (person_spec c M p dp _ (hP2 _)) ?sB ?sF ?sX ?sN ?sT ?sk ?sd ?su ?_
  ((case sB => assumption); (case sF => assumption); (case sX => assumption); (case sN => assumption); (case sT => assumption); (case sk => first | rfl | assumption); (case sd => (first | (refine' room9 ?rh ?rk; (case rh => assumption); (case rk => rfl)) | (refine' room1 ?rh ?rk; (case rh => assumption); (case rk => rfl)) | omega)); (case su => (first | (refine' room9 ?rh ?rk; (case rh => assumption); (case rk => rfl)) | (refine' room1 ?rh ?rk; (case rh => assumption); (case rk => rfl)) | omega)))
  rintro r n10 h10 t10 ⟨rfl, tm, rfl⟩ hs10 F10 N10 K10
  dsimp only
  k_steps
  refine getM_join ?_
  rename Fr _ _ _ _ => F8
  rename News _ _ _ _ => N8
  dsimp only
  k_steps
  refine bj5 (N8.isList (.head _)) (by simp [hz8]) (by simp; omega) (by simp) (by simp [persB]) (by simp; omega) fun t' k => ?_
  k_steps
  exact ⟨_, _, F8, N8, fun p hp _ => .tail _ hp, ⟨fun p hp => .tail _ hp, out_pre (by simp [hz8, persB]; omega)⟩, rfl, rfl, rfl⟩
theorem tag_octets (c : Cx) (M : List Addr) (tg dc p dp : Addr) (g k : Nat) (msg : Array UInt8) (news : Led) (hP : TagIn news M tg dc p dp g k msg) (hm : msg.size ≤ 2) :
   Spec c 343 15 150 [.ref tg] news [] (fun r n' => (∀ p ∈ news, p ∈ n') ∧ ∃ pre t, r = .bytes (pre ++ #[10] ++ msg) t ∧ pre.size ≤ 100) := by
  refine' enter (binds := [(Str.ofString "self", .ref tg)]) ?k6 ?k7 ?k9 ?kB ?c2 ?c3 ?c4 ?c5 ?_
  ((case k6 => k_is); (case k7 => k_is); (case k9 => intro s9 X9; first | exact BindsTo.of_eq rfl | exact binds_K X9 rfl (by k_is) rfl rfl rfl); (case kB => exact locs rfl); (case c2 => exact rfl); (case c3 => exact rfl); (case c4 => exact rfl); (case c5 => decide); skip)
  intro dpt un gd outer A₀ base g9 L' h₁ tk s C hd9 hu9; obtain ⟨B, F, X, N, T, hk9⟩ := C; (try dsimp only); k_fold; (try (refine letA (P := fun A9 => wpAny _ A9 _ _ _ _) _ ?_; intro A9))
  refine hushL ?_
  intro hG
  obtain ⟨⟨m1, _⟩, ⟨hz1, t1, t, hz2, t2, u2, hz3, t3, u3, hz4, t4, hz5, t5, u5, hz6, t6, u6, n, m2, _⟩, hPP⟩ := id hP
  k_unfold
  clear hG
  k_steps
  unfold Stop9
  refine' Spec.use (signed_spec c M tg dc p dp g k msg _ hP hm) ?sB ?sF ?sX ?sN ?sT ?sk ?sd ?su ?_
  ((case sB => assumption); (case sF => assumption); (case sX => assumption); (case sN => assumption); (case sT => assumption); (case sk => first | rfl | assumption); (case sd => (first | (refine' room9 ?rh ?rk; (case rh => assumption); (case rk => rfl)) | (refine' room1 ?rh ?rk; (case rh => assumption); (case rk => rfl)) | omega)); (case su => (first | (refine' room9 ?rh ?rk; (case rh => assumption); (case rk => rfl)) | (refine' room1 ?rh ?rk; (case rh => assumption); (case rk => rfl)) | omega)))
  intro r n9 h9 t9 zy25 hs9 F9 N9 K9
  refine hushL ?_
  intro hGG
  obtain ⟨hs8, pre, tm, rfl, hpre⟩ := zy25
  k_unfold
  clear hGG
  replace m1 := hs8 _ m1
  replace m2 := hs8 _ m2
  dsimp only
  k_steps
  rw [show pre ++ #[10] ++ msg ++ #[] = pre ++ #[10] ++ msg from by simp]
  exact ⟨_, n9, F9, N9, fun p hp _ => hs8 p hp, ⟨hs8, pre, _, rfl, hpre⟩, rfl, rfl, rfl⟩
end J_P3
example {M : Model} {A : Around} {Q : Unit → Shared → Prop} {E : Value → Shared → Prop} {s : Shared} : wpAny M A (pure ()) Q E s ∨ True := by w_top off; first | (left; walk1; done) | (right; trivial)
section J_P4
theorem sig_end (c0 c1 : UInt8) (kt mid pre : Array UInt8) (m : UInt8) : sig ((#[c0, c1] ++ kt) ++ #[32] ++ mid ++ #[0] ++ (pre ++ #[10] ++ #[m, 10])).toList = (some c0, some c1, some m) := by
  have e : ((#[c0, c1] ++ kt) ++ #[32] ++ mid ++ #[0] ++ (pre ++ #[10] ++ #[m, 10])).toList = ([c0, c1] ++ kt.toList ++ [32] ++ mid.toList ++ [0] ++ pre.toList ++ [10]) ++ [m, 10] := by simp
  rw [e]
  unfold sig
  refine Prod.ext (by simp) (Prod.ext (by simp) ?_)
  show (_ ++ [m, 10])[_]? = some m
  have h0 : ∀ n : Nat, n = 0 → ([m, 10] : List UInt8)[n]? = some m := by rintro n rfl; rfl
  rw [List.getElem?_append_right (by simp; omega)]
  exact h0 _ (by simp; omega)
theorem seen_commit (k : Cnt) (mid pre : Array UInt8) (h : k.nc ≤ 10) : ¬ Seen k (#[99, 111, 109, 109, 105, 116] ++ #[32] ++ mid ++ #[0] ++ (pre ++ #[10] ++ #[(97 + k.nc).toUInt8, 10])).toList ∧ Seen { k with nc := k.nc + 1 } (#[99, 111, 109, 109, 105, 116] ++ #[32] ++ mid ++ #[0] ++ (pre ++ #[10] ++ #[(97 + k.nc).toUInt8, 10])).toList := by
  have hs := sig_end 99 111 #[109, 109, 105, 116] mid pre (97 + k.nc).toUInt8
  rw [show (#[99, 111] ++ #[109, 109, 105, 116] : Array UInt8) = #[99, 111, 109, 109, 105, 116] from rfl] at hs
  refine ⟨?_, .inr (.inr (.inr (.inr (.inl ⟨k.nc, Nat.lt_succ_self _, hs⟩))))⟩
  unfold Seen
  rw [hs]
  rintro (⟨g', _, h2, e⟩ | ⟨_, e⟩ | ⟨_, e⟩ | ⟨_, _, e⟩ | ⟨j, hj, e⟩ | ⟨_, _, e⟩) <;> simp only [Prod.mk.injEq, Option.some.injEq] at e
  · exact absurd e.1 (by decide)
  · exact absurd e.1 (by decide)
  · exact absurd e.1 (by decide)
  · exact absurd e.1 (by decide)
  · exact u8_ne (by omega) (by omega) (by omega) e.2.2
  · exact absurd e.1 (by decide)
/-- what writing makes -/
noncomputable def Wrote (w : World) (news n' : Led) (a : Ads) (cnt : Nat) (k' : Cnt) (kvs : List (List UInt8 × Value)) (kb : Array UInt8) (thing : Value → Prop) (r : Value) : Prop :=
  ∃ t τ tk th, r = .bytes (idA (cnt + 1)) t ∧ Hashed w n' a.kn (cnt + 1) k' ∧ KnIn w n' a.kp (kvs ++ [(idL (cnt + 1), .ref τ)]) ∧ Off n' a.muts τ (tup2 (.bytes kb tk) th) ∧ thing th ∧ ∀ p ∈ news, p.1 < τ
theorem write_spec (c : Cx) (a : Ads) (cnt : Nat) (k k' : Cnt) (cb : Array UInt8) (t1 t2 : Tok) (news : Led) (kvs : List (List UInt8 × Value)) (hF : Frame9 news a) (hH : Hashed c.w news a.kn cnt k) (hK : KnIn c.w news a.kp kvs)
    (hb : cb.size < 128) (hc : cnt ≤ 200) (hn : idL (cnt + 1) ∉ kvs.map (·.1)) (hl : kvs.length ≤ 900) (hs : ∀ mid : Array UInt8, ¬ Seen k (#[98, 108, 111, 98] ++ #[32] ++ mid ++ #[0] ++ cb).toList ∧ Seen k' (#[98, 108, 111, 98] ++ #[32] ++ mid ++ #[0] ++ cb).toList) (hu : ∀ l, Seen k l → Seen k' l) :
   Spec c 392 20 250 [.ref a.st, .bytes #[98, 108, 111, 98] t1, .bytes cb t2] news [a.kn, a.kp] (fun r n' => Wrote c.w news n' a cnt k' kvs #[98, 108, 111, 98] (fun _ => True) r) := by
  refine' enter (binds := [(Str.ofString "self", .ref a.st), (Str.ofString "kind", .bytes #[98, 108, 111, 98] t1), (Str.ofString "content", .bytes cb t2)]) ?k6 ?k7 ?k9 ?kB ?c2 ?c3 ?c4 ?c5 ?_
  ((case k6 => k_is); (case k7 => k_is); (case k9 => intro s9 X9; first | exact BindsTo.of_eq rfl | exact binds_K X9 rfl (by k_is) rfl rfl rfl); (case kB => exact locs rfl); (case c2 => exact rfl); (case c3 => exact rfl); (case c4 => exact rfl); (case c5 => decide); skip)
  intro dpt un gd outer A₀ base g9 L' h₁ tk s C hd9 hu9; obtain ⟨B, F, X, N, T, hk9⟩ := C; (try dsimp only); k_fold; (try (refine letA (P := fun A9 => wpAny _ A9 _ _ _ _) _ ?_; intro A9))
  refine hushL ?_
  intro hG
  obtain ⟨⟨m1, hq1⟩, hz1, t4, hz2, t5, n, m2, hq2⟩ := hF.st
  k_unfold
  clear hG
  k_steps
  unfold Stop9
  refine' Spec.use (keep_spec c a cnt k k' _ cb _ _ _ _ kvs hF hH hK (by decide) hb hc hn hl hs hu) ?sB ?sF ?sX ?sN ?sT ?sk ?sd ?su ?_
  ((case sB => assumption); (case sF => assumption); (case sX => assumption); (case sN => assumption); (case sT => assumption); (case sk => first | rfl | assumption); (case sd => (first | (refine' room9 ?rh ?rk; (case rh => assumption); (case rk => rfl)) | (refine' room1 ?rh ?rk; (case rh => assumption); (case rk => rfl)) | omega)); (case su => (first | (refine' room9 ?rh ?rk; (case rh => assumption); (case rk => rfl)) | (refine' room1 ?rh ?rk; (case rh => assumption); (case rk => rfl)) | omega)))
  intro r n9 h9 t9 zy26 hs9 F9 N9 K9
  refine hushL ?_
  intro hGG
  obtain ⟨t, τ, rfl, hH9, hK9, hO9, hlt⟩ := zy26
  k_unfold
  clear hGG
  exact ⟨_, n9, F9, N9, hs9, ⟨t, τ, _, _, rfl, hH9, hK9, hO9, trivial, hlt⟩, rfl, rfl, rfl⟩
theorem wcommit_spec (c : Cx) (a : Ads) (cnt : Nat) (k : Cnt) (cm dc pl xl p dp : Addr) (g : Nat) (news : Led) (kvs : List (List UInt8 × Value)) (hF : Frame9 news a) (hH : Hashed c.w news a.kn cnt k) (hK : KnIn c.w news a.kp kvs)
    (hc : cnt ≤ 200) (hn : idL (cnt + 1) ∉ kvs.map (·.1)) (hl : kvs.length ≤ 900) (hj : k.nc ≤ 10) (hP : CommitIn news a.muts cm dc pl xl p dp g #[(97 + k.nc).toUInt8, 10]) :
   Spec c 406 20 300 [.ref a.st, .ref cm] news [a.kn, a.kp] (fun r n' => Wrote c.w news n' a cnt { k with nc := k.nc + 1 } kvs #[99, 111, 109, 109, 105, 116] (fun th => th = .ref cm) r) := by
  refine' enter (binds := [(Str.ofString "self", .ref a.st), (Str.ofString "commit", .ref cm)]) ?k6 ?k7 ?k9 ?kB ?c2 ?c3 ?c4 ?c5 ?_
  ((case k6 => k_is); (case k7 => k_is); (case k9 => intro s9 X9; first | exact BindsTo.of_eq rfl | exact binds_K X9 rfl (by k_is) rfl rfl rfl); (case kB => exact locs rfl); (case c2 => exact rfl); (case c3 => exact rfl); (case c4 => exact rfl); (case c5 => decide); skip)
  intro dpt un gd outer A₀ base g9 L' h₁ tk s C hd9 hu9; obtain ⟨B, F, X, N, T, hk9⟩ := C; (try dsimp only); k_fold; (try (refine letA (P := fun A9 => wpAny _ A9 _ _ _ _) _ ?_; intro A9))
  refine hushL ?_
  intro hG
  obtain ⟨⟨m1, hq1⟩, hz1, t4, hz2, t5, n, m2, hq2⟩ := hF.st
  k_unfold
  clear hG
  refine hushL ?_
  intro hG
  obtain ⟨⟨m3, _⟩, ⟨hy1, u1, u, hy2, u2, hy3, u3, hy4, u4, hy5, u5, hy6, u6, v6, n3, m4, _⟩, _, _, hPP⟩ := id hP
  k_unfold
  clear hG
  k_steps
  unfold Stop9
  refine' Spec.use (commit_octets c a.muts cm dc pl xl p dp g _ _ hP (by simp)) ?sB ?sF ?sX ?sN ?sT ?sk ?sd ?su ?_
  ((case sB => assumption); (case sF => assumption); (case sX => assumption); (case sN => assumption); (case sT => assumption); (case sk => first | rfl | assumption); (case sd => (first | (refine' room9 ?rh ?rk; (case rh => assumption); (case rk => rfl)) | (refine' room1 ?rh ?rk; (case rh => assumption); (case rk => rfl)) | omega)); (case su => (first | (refine' room9 ?rh ?rk; (case rh => assumption); (case rk => rfl)) | (refine' room1 ?rh ?rk; (case rh => assumption); (case rk => rfl)) | omega)))
  intro r n9 h9 t9 zy27 hs9 F9 N9 K9
  refine hushL ?_
  intro hGG
  obtain ⟨hs8, pre, tm, rfl, hpre⟩ := zy27
  k_unfold
  clear hGG
  dsimp only
  replace m1 := hs8 _ m1
  replace m2 := hs8 _ m2
  have hF9 := hF.to (S := []) (by simp) (fun p hp _ => hs8 p hp)
  have hH9 := hH.to (S := []) (by simp) (fun p hp _ => hs8 p hp)
  have hK9 := hK.to (S := []) (by simp) (fun p hp _ => hs8 p hp)
  k_steps
  unfold Stop9
  refine' Spec.use (keep_spec c a cnt k { k with nc := k.nc + 1 } _ _ _ _ _ _ kvs hF9 hH9 hK9 (by decide) (by simp; omega) hc hn hl (fun mid => seen_commit k mid pre hj) (fun l hl => hl.up (Nat.le_refl _) (Nat.le_refl _) (Nat.le_refl _) (Nat.le_succ _) (Nat.le_refl _))) ?sB ?sF ?sX ?sN ?sT ?sk ?sd ?su ?_
  ((case sB => assumption); (case sF => assumption); (case sX => assumption); (case sN => assumption); (case sT => assumption); (case sk => first | rfl | assumption); (case sd => (first | (refine' room9 ?rh ?rk; (case rh => assumption); (case rk => rfl)) | (refine' room1 ?rh ?rk; (case rh => assumption); (case rk => rfl)) | omega)); (case su => (first | (refine' room9 ?rh ?rk; (case rh => assumption); (case rk => rfl)) | (refine' room1 ?rh ?rk; (case rh => assumption); (case rk => rfl)) | omega)))
  intro r n10 h10 t10 zy28 hs10 F10 N10 K10
  refine hushL ?_
  intro hGG
  obtain ⟨t, τ, rfl, hH10, hK10, hO10, hlt⟩ := zy28
  k_unfold
  clear hGG
  exact ⟨_, n10, F10, N10, fun p hp hn => hs10 p (hs8 p hp) hn, ⟨t, τ, _, _, rfl, hH10, hK10, hO10, rfl, fun p hp => hlt p (hs8 p hp)⟩, rfl, rfl, rfl⟩
end J_P4
example {M : Model} {A : Around} {Q : Unit → Shared → Prop} {E : Value → Shared → Prop} {s : Shared} : wpAny M A (pure ()) Q E s ∨ True := by w_top off; first | (left; walk1; done) | (right; trivial)
section J_P5
theorem seen_tag (k : Cnt) (mid pre : Array UInt8) (h : k.ng ≤ 10) : ¬ Seen k (#[116, 97, 103] ++ #[32] ++ mid ++ #[0] ++ (pre ++ #[10] ++ #[(97 + k.ng).toUInt8, 10])).toList ∧ Seen { k with ng := k.ng + 1 } (#[116, 97, 103] ++ #[32] ++ mid ++ #[0] ++ (pre ++ #[10] ++ #[(97 + k.ng).toUInt8, 10])).toList := by
  have hs := sig_end 116 97 #[103] mid pre (97 + k.ng).toUInt8
  rw [show (#[116, 97] ++ #[103] : Array UInt8) = #[116, 97, 103] from rfl] at hs
  refine ⟨?_, .inr (.inr (.inr (.inr (.inr ⟨k.ng, Nat.lt_succ_self _, hs⟩))))⟩
  unfold Seen
  rw [hs]
  rintro (⟨g', _, h2, e⟩ | ⟨_, e⟩ | ⟨_, e⟩ | ⟨_, _, e⟩ | ⟨_, _, e⟩ | ⟨j, hj, e⟩) <;> simp only [Prod.mk.injEq, Option.some.injEq] at e
  · exact absurd e.1 (by decide)
  · exact absurd e.1 (by decide)
  · exact absurd e.1 (by decide)
  · exact absurd e.2.1 (by decide)
  · exact absurd e.1 (by decide)
  · exact u8_ne (by omega) (by omega) (by omega) e.2.2
theorem wtag_spec (c : Cx) (a : Ads) (cnt : Nat) (k : Cnt) (tg dc p dp : Addr) (g kk : Nat) (news : Led) (kvs : List (List UInt8 × Value)) (hF : Frame9 news a) (hH : Hashed c.w news a.kn cnt k) (hK : KnIn c.w news a.kp kvs)
    (hc : cnt ≤ 200) (hn : idL (cnt + 1) ∉ kvs.map (·.1)) (hl : kvs.length ≤ 900) (hj : k.ng ≤ 10) (hP : TagIn news a.muts tg dc p dp g kk #[(97 + k.ng).toUInt8, 10]) :
   Spec c 413 30 400 [.ref a.st, .ref tg] news [a.kn, a.kp] (fun r n' => Wrote c.w news n' a cnt { k with ng := k.ng + 1 } kvs #[116, 97, 103] (fun th => th = .ref tg) r) := by
  refine' enter (binds := [(Str.ofString "self", .ref a.st), (Str.ofString "tag", .ref tg)]) ?k6 ?k7 ?k9 ?kB ?c2 ?c3 ?c4 ?c5 ?_
  ((case k6 => k_is); (case k7 => k_is); (case k9 => intro s9 X9; first | exact BindsTo.of_eq rfl | exact binds_K X9 rfl (by k_is) rfl rfl rfl); (case kB => exact locs rfl); (case c2 => exact rfl); (case c3 => exact rfl); (case c4 => exact rfl); (case c5 => decide); skip)
  intro dpt un gd outer A₀ base g9 L' h₁ tk s C hd9 hu9; obtain ⟨B, F, X, N, T, hk9⟩ := C; (try dsimp only); k_fold; (try (refine letA (P := fun A9 => wpAny _ A9 _ _ _ _) _ ?_; intro A9))
  refine hushL ?_
  intro hG
  obtain ⟨⟨m1, hq1⟩, hz1, t4, hz2, t5, n, m2, hq2⟩ := hF.st
  k_unfold
  clear hG
  refine hushL ?_
  intro hG
  obtain ⟨⟨m3, _⟩, ⟨hy1, u1, u, hy2, u2, w2, hy3, u3, w3, hy4, u4, hy5, u5, w5, hy6, u6, w6, n3, m4, _⟩, hPP⟩ := id hP
  k_unfold
  clear hG
  k_steps
  unfold Stop9
  refine' Spec.use (tag_octets c a.muts tg dc p dp g kk _ _ hP (by simp)) ?sB ?sF ?sX ?sN ?sT ?sk ?sd ?su ?_
  ((case sB => assumption); (case sF => assumption); (case sX => assumption); (case sN => assumption); (case sT => assumption); (case sk => first | rfl | assumption); (case sd => (first | (refine' room9 ?rh ?rk; (case rh => assumption); (case rk => rfl)) | (refine' room1 ?rh ?rk; (case rh => assumption); (case rk => rfl)) | omega)); (case su => (first | (refine' room9 ?rh ?rk; (case rh => assumption); (case rk => rfl)) | (refine' room1 ?rh ?rk; (case rh => assumption); (case rk => rfl)) | omega)))
  intro r n9 h9 t9 zy29 hs9 F9 N9 K9
  refine hushL ?_
  intro hGG
  obtain ⟨hs8, pre, tm, rfl, hpre⟩ := zy29
  k_unfold
  clear hGG
  dsimp only
  replace m1 := hs8 _ m1
  replace m2 := hs8 _ m2
  have hF9 := hF.to (S := []) (by simp) (fun p hp _ => hs8 p hp)
  have hH9 := hH.to (S := []) (by simp) (fun p hp _ => hs8 p hp)
  have hK9 := hK.to (S := []) (by simp) (fun p hp _ => hs8 p hp)
  k_steps
  unfold Stop9
  refine' Spec.use (keep_spec c a cnt k { k with ng := k.ng + 1 } _ _ _ _ _ _ kvs hF9 hH9 hK9 (by decide) (by simp; omega) hc hn hl (fun mid => seen_tag k mid pre hj) (fun l hl => hl.up (Nat.le_refl _) (Nat.le_refl _) (Nat.le_refl _) (Nat.le_refl _) (Nat.le_succ _))) ?sB ?sF ?sX ?sN ?sT ?sk ?sd ?su ?_
  ((case sB => assumption); (case sF => assumption); (case sX => assumption); (case sN => assumption); (case sT => assumption); (case sk => first | rfl | assumption); (case sd => (first | (refine' room9 ?rh ?rk; (case rh => assumption); (case rk => rfl)) | (refine' room1 ?rh ?rk; (case rh => assumption); (case rk => rfl)) | omega)); (case su => (first | (refine' room9 ?rh ?rk; (case rh => assumption); (case rk => rfl)) | (refine' room1 ?rh ?rk; (case rh => assumption); (case rk => rfl)) | omega)))
  intro r n10 h10 t10 zy30 hs10 F10 N10 K10
  refine hushL ?_
  intro hGG
  obtain ⟨t, τ, rfl, hH10, hK10, hO10, hlt⟩ := zy30
  k_unfold
  clear hGG
  exact ⟨_, n10, F10, N10, fun p hp hn => hs10 p (hs8 p hp) hn, ⟨t, τ, _, _, rfl, hH10, hK10, hO10, rfl, fun p hp => hlt p (hs8 p hp)⟩, rfl, rfl, rfl⟩
end J_P5
example {M : Model} {A : Around} {Q : Unit → Shared → Prop} {E : Value → Shared → Prop} {s : Shared} : wpAny M A (pure ()) Q E s ∨ True := by w_top off; first | (left; walk1; done) | (right; trivial)
section J_V0
theorem gives_has (b : Array UInt8) (k : Int) (t u : Tok) (h0 : 0 ≤ k) (h1 : k < 256) : Gives (Builtin.«bytes.__contains__» ⟨[.bytes b t, .int k u], []⟩) (.val (.bool (b.contains k.toNat.toUInt8))) := by
  refine .of_wp fun M A E s Q hq => ?_
  show wpAny M A (Builtin.Bytes.containsIn "bytes.__contains__" (.bytes b t) (.int k u) >>= fun r => _) _ E s
  unfold Builtin.Bytes.containsIn
  have hi : wpAny M A (asIndex (.int k u)).attempt (fun r s' => r = .ok k ∧ s' = s) E s := wpAny_attempt (by
    unfold asIndex
    exact wpAny_bind (wpAny_pure (wpAny_pure ⟨rfl, rfl⟩)))
  refine wpAny_bind (wpAny_bind (wpAny_mono hi (fun r s' hr => ?_) fun _ _ x => x))
  · obtain ⟨rfl, rfl⟩ := hr
    refine wpAny_bind (wpAny_of_eq KBy.buffer_eq ?_)
    dsimp only
    rw [if_neg (by simp; omega)]
    exact wpAny_pure (wpAny_pure ⟨_, rfl, hq⟩)
theorem notin_byte {prog : Program} {w : World} {A : Around} {E : Value → Shared → Prop} {s : Shared} {b : Array UInt8} {k : Int} {t u : Tok} {v : Bool} {Q : Value → Shared → Prop} (h0 : 0 ≤ k) (h1 : k < 256) (hv : b.contains k.toNat.toUInt8 = v) (h : Q (.bool (!v)) s) : wpAny (model prog w) A (compareOp .NotIn (.int k u) (.bytes b t)) Q E s :=
  notIn_gives (PySem.W.typeIs_bytes s b t) FB.slot_bytes_contains FB.entry_bytes_contains (FB.args_bytes_contains_2 _ _) (gives_has b k t u h0 h1) (by rw [hv]; exact h)
end J_V0
example {M : Model} {A : Around} {Q : Unit → Shared → Prop} {E : Value → Shared → Prop} {s : Shared} : wpAny M A (pure ()) Q E s ∨ True := by w_top off; first | (left; walk1; done) | (right; trivial)
section J_V2
namespace FV
theorem slot_find : Slot "bytes" "find" "bytes.find" :=
  .of (owner := "bytes") (n := "find") (by rw [typeLookup_type, builtinLookup_eq_fast]; kernel_rfl) (by decide +kernel) (by decide +kernel) (by decide +kernel)
    (by first | exact .inl (by decide +kernel) | exact .inr (by decide +kernel)) (by rw [isSubtype_type]; kernel_rfl)
theorem entry_find : entryFor table "bytes.find" = some Builtin.«bytes.find» := entryFor_of_tree (by kernel_rfl)
theorem args_find (a b : Value) : argsOk "bytes.find" ⟨[a, b], []⟩ := by
  unfold argsOk; rw [signature?_of (id := "bytes.find") (n := ['d', 'n', 'i', 'f']) (o := ['s', 'e', 't', 'y', 'b']) (by kernel_rfl) FJ.owner_by]; kernel_rfl
theorem type_find : typeOf (.builtin "bytes.find") = pure (.type "method_descriptor") := by show builtinType _ = _; rw [builtinType_eq_fast]; kernel_rfl
end FV
theorem getM_find {M : Model} {A : Around} {E : Value → Shared → Prop} {s : Shared} {b : Array UInt8} {t : Tok} {pl : Sem Bool} {Q : Value × List Value → Shared → Prop} (h : Q (.builtin "bytes.find", [.bytes b t]) s) : wpAny M A (getMethod (.bytes b t) (Str.ofString "find") pl) Q E s :=
  getMethod_builtin (PySem.W.typeIs_bytes _ _ _) FJ.plainAttrs_by FV.slot_find FV.type_find (fun a e => nomatch e) h
theorem find_none {prog : Program} {w : World} {A : Around} {E : Value → Shared → Prop} {s : Shared} {b sub : Array UInt8} {t u : Tok} {Q : Value → Shared → Prop} (hw : (1 : Nat) ≤ b.size ∧ sub.size = 1) (hn : Builtin.Bytes.find? b sub 0 b.size = none) (h : ∀ t' k, Q (.int (-1) t') { s with toks := k }) :
    wpAny (model prog w) A (call (.builtin "bytes.find") [.bytes b t, .bytes sub u]) Q E s := by
  refine wpAny_call_entry FV.slot_find (PySem.W.typeIs_bytes _ _ _) FV.entry_find ?_ (FV.args_find _ _)
  unfold Builtin.«bytes.find» Builtin.Bytes.searchM
  refine wpAny_bind (m := Builtin.Bytes.searchArgs _ _ _) ?_
  unfold Builtin.Bytes.searchArgs
  refine wpAny_bind (m := selfAndSome _ _ _ _ _) (wpAny_pure ?_)
  dsimp only
  refine wpAny_bind (m := Builtin.Bytes.bound? _) (wpAny_pure ?_)
  refine wpAny_bind (m := Builtin.Bytes.bound? _) (wpAny_pure ?_)
  refine wpAny_bind (wpAny_of_eq KBy.buffer_eq ?_)
  dsimp only
  refine wpAny_bind (wpAny_pure ?_)
  refine wpAny_bind (m := Builtin.Bytes.payload _) (wpAny_bind (wpAny_pure (wpAny_pure ?_)))
  refine wpAny_pure ?_
  have e1 : (Builtin.Bytes.window b.size none none).fst = 0 := rfl
  have e2 : (Builtin.Bytes.window b.size none none).snd = b.size := by
    show min ((b.size : Nat) : Int) (if ((b.size : Nat) : Int) < 0 then _ else ((b.size : Nat) : Int)) = _
    rw [if_neg (by omega), Int.min_self]
  rw [e1, e2, if_neg (by omega)]
  dsimp only [Option.bind]
  rw [if_neg (by decide), show Int.toNat 0 = 0 from rfl, Int.toNat_natCast, hn]
  dsimp only
  refine wpAny_bind (wpAny_rule ?_)
  rw [if_neg (by decide)]
  exact wpAny_ret_mkInt (h _ _)
end J_V2
example {M : Model} {A : Around} {Q : Unit → Shared → Prop} {E : Value → Shared → Prop} {s : Shared} : wpAny M A (pure ()) Q E s ∨ True := by w_top off; first | (left; walk1; done) | (right; trivial)
section J_V1
example : True := by
  (k_with "compareOp NotIn int bytes" => refine stop9 ?_)
  (k_with "compareOp NotIn" => with_reducible refine stopP17 ?_)
  trivial
theorem areall_spec (c : Cx) (b b2 : Array UInt8) (t t2 : Tok) (news : Led) (hb : b = idA 1) (hb2 : b2 = #[0]) :
   Spec c 139 3 30 [.bytes b t, .bytes b2 t2] news [] (fun v n => (∀ p ∈ news, p ∈ n) ∧ v = .bool false) := by
  refine' enter (binds := [(Str.ofString "octets", .bytes b t), (Str.ofString "signs", .bytes b2 t2)]) ?k6 ?k7 ?k9 ?kB ?c2 ?c3 ?c4 ?c5 ?_
  ((case k6 => k_is); (case k7 => k_is); (case k9 => intro s9 X9; first | exact BindsTo.of_eq rfl | exact binds_K X9 rfl (by k_is) rfl rfl rfl); (case kB => exact locs rfl); (case c2 => exact rfl); (case c3 => exact rfl); (case c4 => exact rfl); (case c5 => decide); skip)
  intro dp un gd outer A₀ base g L' h₁ tk s C hd9 hu9; obtain ⟨B, F, X, N, T, hk9⟩ := C; (try dsimp only); k_fold; (try (refine letA (P := fun A9 => wpAny _ A9 _ _ _ _) _ ?_; intro A9))
  k_steps
  rename Fr _ _ _ _ => F1
  rename News _ _ _ _ => N1
  refine hushL ?_
  intro hG
  obtain ⟨M0, hM0, F1⟩ := fr_map F1
  k_unfold
  clear hG
  refine' for_goI (fun i m nx => nx = news ∧ i ≤ 3 ∧ ∀ z, z ≠ Str.ofString "sign" → m z = M0 z) ?fh ?fs ?fL ?fF ?fN ⟨rfl, Nat.zero_le _, fun _ _ => rfl⟩ ?_ ?_
  case fF => exact F1
  case fN => exact N1
  case fh => rfl
  case fs => exact src_bytes b t
  case fL => intro hm; cases hm
  · rintro I i v m₁ nx h tk own hi hv ⟨rfl, hi3, hm⟩ hnI hown F3 N3
    clear F1 N1
    rw [map_none hm, hM0] at F3
    dsimp only at F3 N3
    refine hushL ?_
    intro hGG
    obtain ⟨cc, u, hc, rfl⟩ := hv
    k_unfold
    clear hGG
    have hcc : (i < 3 ∧ cc = 0) ∨ (i = 3 ∧ cc = 1) := by
      subst hb
      have : i = 0 ∨ i = 1 ∨ i = 2 ∨ i = 3 := by omega
      rcases this with rfl | rfl | rfl | rfl
      · exact .inl ⟨by omega, (Option.some.inj hc).symm⟩
      · exact .inl ⟨by omega, (Option.some.inj hc).symm⟩
      · exact .inl ⟨by omega, (Option.some.inj hc).symm⟩
      · exact .inr ⟨rfl, (Option.some.inj hc).symm⟩
    refine stopEnd ?_
    k_steps
    try unfold Stop9
    subst hb2
    rcases hcc with ⟨hi', rfl⟩ | ⟨rfl, rfl⟩
    · refine notin_byte (v := true) (by decide) (by decide) (by decide +kernel) ?_
      rw [Bool.not_true]
      k_steps
      exact unstop ⟨_, _, _, _, _, rfl, F3, N3, fun p hp => List.mem_append_left _ hp, fun p hp => List.mem_append_right _ hp, hnI, rfl, by omega, fun z hz => by simp only [if_neg hz, hM0]⟩
    · refine notin_byte (v := false) (by decide) (by decide) (by decide +kernel) ?_
      rw [Bool.not_false]
      k_steps
      exact unstop ⟨_, nx, F3, fun p hp => N3 p (List.mem_append_left _ hp), fun p hp _ => hp, ⟨fun p hp => hp, rfl⟩, rfl, rfl, rfl⟩
  · rintro m₁ nx h tk ⟨rfl, hi3, hm⟩ F3 N3
    subst hb
    exact absurd hi3 (by decide)
end J_V1
example : True := by
  k_with_none
  (k_with "call ref" => refine stop_ref rfl ?_)
  (k_with "eval ListComp" => with_reducible refine stopP0 ?_)
  (k_with "exec For" => with_reducible refine stopP1 ?_)
  (k_with "exec Assign cons ListComp" => with_reducible refine stopP2 ?_)
  (k_with "call type:bytes" => (with_reducible show wpAny _ _ (call (Value.type "bytes") [Value.bytes _ _]) _ _ _; refine bytes_bytes ?_))
  (k_with "subscriptTail" => (with_reducible show wpAny _ _ (subscriptTail _ _ (Value.ref _) (Value.str _ _)) _ _ _; refine' kda_item (knd := PySem.strKind _ _) ?iN ?im ?ih (strKind_is _ _ _ _) ?iv ?_; (case iN => assumption); (case im => assumption); (case ih => assumption); (case iv => with_unfolding_all rfl)))
  (k_with "binaryOp Add bytes bytes" => ((with_reducible show wpAny _ _ (binaryOp Operator.Add (Value.bytes _ _) (Value.bytes _ _)) _ _ _); (refine KBy.add_bytes (by first | assumption | ((try simp only [Array.size_append, List.size_toArray, List.length_cons, List.length_nil]); omega)) ?_); intro _ _))
  (k_with "call builtin:len" => ((with_reducible show wpAny _ _ (call (Value.builtin "len") [Value.bytes _ _]) _ _ _); (refine len_bytes (by first | assumption | omega) ?_)))
  trivial
example {M : Model} {A : Around} {Q : Unit → Shared → Prop} {E : Value → Shared → Prop} {s : Shared} : wpAny M A (pure ()) Q E s ∨ True := by w_top off; first | (left; walk1; done) | (right; trivial)
section J_V3
theorem hassign_spec (c : Cx) (b b2 : Array UInt8) (t t2 : Tok) (news : Led) (hb : b = #[102]) (hb2 : b2 = #[47, 0]) :
   Spec c 132 3 30 [.bytes b t, .bytes b2 t2] news [] (fun v n => (∀ p ∈ news, p ∈ n) ∧ v = .bool false) := by
  refine' enter (binds := [(Str.ofString "octets", .bytes b t), (Str.ofString "signs", .bytes b2 t2)]) ?k6 ?k7 ?k9 ?kB ?c2 ?c3 ?c4 ?c5 ?_
  ((case k6 => k_is); (case k7 => k_is); (case k9 => intro s9 X9; first | exact BindsTo.of_eq rfl | exact binds_K X9 rfl (by k_is) rfl rfl rfl); (case kB => exact locs rfl); (case c2 => exact rfl); (case c3 => exact rfl); (case c4 => exact rfl); (case c5 => decide); skip)
  intro dp un gd outer A₀ base g L' h₁ tk s C hd9 hu9; obtain ⟨B, F, X, N, T, hk9⟩ := C; (try dsimp only); k_fold; (try (refine letA (P := fun A9 => wpAny _ A9 _ _ _ _) _ ?_; intro A9))
  k_steps
  rename Fr _ _ _ _ => F1
  rename News _ _ _ _ => N1
  refine hushL ?_
  intro hG
  obtain ⟨M0, hM0, F1⟩ := fr_map F1
  k_unfold
  clear hG
  refine' for_goI (fun i m nx => nx = news ∧ ∀ z, z ≠ Str.ofString "sign" → m z = M0 z) ?fh ?fs ?fL ?fF ?fN ⟨rfl, fun _ _ => rfl⟩ ?_ ?_
  case fF => exact F1
  case fN => exact N1
  case fh => rfl
  case fs => exact src_bytes b2 t2
  case fL => intro hm; cases hm
  · rintro I i v m₁ nx h tk own hi hv ⟨rfl, hm⟩ hnI hown F3 N3
    clear F1 N1
    rw [map_none hm, hM0] at F3
    dsimp only at F3 N3
    refine hushL ?_
    intro hGG
    obtain ⟨cc, u, hc, rfl⟩ := hv
    k_unfold
    clear hGG
    have hcc : cc = 47 ∨ cc = 0 := by
      subst hb2
      have : i = 0 ∨ i = 1 := by have : i < 2 := hi; omega
      rcases this with rfl | rfl
      · exact .inl (Option.some.inj hc).symm
      · exact .inr (Option.some.inj hc).symm
    have hlt := cc.toNat_lt
    refine stopEnd ?_
    k_steps
    refine getM_find ?_
    dsimp only
    k_steps
    rename Fr _ _ _ _ => F6
    rename News _ _ _ _ => N6
    have hfn : Builtin.Bytes.find? b #[((cc.toNat : Nat) : Int).toNat.toUInt8] 0 b.size = none := by
      subst hb
      rcases hcc with rfl | rfl <;> decide +kernel
    have hbz : 1 ≤ b.size := by subst hb; decide
    refine find_none ⟨hbz, rfl⟩ hfn fun t9 k9 => ?_
    dsimp only
    k_steps
    exact unstop ⟨_, _, _, _, nx, rfl, F6, N6, fun p hp => .tail _ (List.mem_append_left _ hp), fun p hp => .tail _ (List.mem_append_right _ hp), hnI, rfl, fun z hz => by simp only [if_neg hz, hM0]⟩
  · rintro m₁ nx h tk ⟨rfl, hm⟩ F3 N3
    rw [← done_none hm, hM0] at F3
    dsimp only at F3 N3
    k_steps
    exact ⟨_, nx, F3, N3, fun p hp _ => hp, ⟨fun p hp => hp, rfl⟩, rfl, rfl, rfl⟩
end J_V3
example {M : Model} {A : Around} {Q : Unit → Shared → Prop} {E : Value → Shared → Prop} {s : Shared} : wpAny M A (pure ()) Q E s ∨ True := by w_top off; first | (left; walk1; done) | (right; trivial)
section J_V4
example : True := by
  (k_with "compareOp Eq bytes bytes" => first | (refine eq_bytesV (v := true) ?h0 ?_; (case h0 => assumption)) | (refine eq_bytesV (v := false) ?h0 ?_; (case h0 => assumption)))
  trivial
namespace FV
theorem slot_lower : Slot "bytes" "lower" "bytes.lower" :=
  .of (owner := "bytes") (n := "lower") (by rw [typeLookup_type, builtinLookup_eq_fast]; kernel_rfl) (by decide +kernel) (by decide +kernel) (by decide +kernel)
    (by first | exact .inl (by decide +kernel) | exact .inr (by decide +kernel)) (by rw [isSubtype_type]; kernel_rfl)
theorem entry_lower : entryFor table "bytes.lower" = some Builtin.«bytes.lower» := entryFor_of_tree (by kernel_rfl)
theorem args_lower (a : Value) : argsOk "bytes.lower" ⟨[a], []⟩ := by
  unfold argsOk; rw [signature?_of (id := "bytes.lower") (n := ['r', 'e', 'w', 'o', 'l']) (o := ['s', 'e', 't', 'y', 'b']) (by kernel_rfl) FJ.owner_by]; kernel_rfl
theorem type_lower : typeOf (.builtin "bytes.lower") = pure (.type "method_descriptor") := by show builtinType _ = _; rw [builtinType_eq_fast]; kernel_rfl
end FV
theorem getM_lower {M : Model} {A : Around} {E : Value → Shared → Prop} {s : Shared} {b : Array UInt8} {t : Tok} {pl : Sem Bool} {Q : Value × List Value → Shared → Prop} (h : Q (.builtin "bytes.lower", [.bytes b t]) s) : wpAny M A (getMethod (.bytes b t) (Str.ofString "lower") pl) Q E s :=
  getMethod_builtin (PySem.W.typeIs_bytes _ _ _) FJ.plainAttrs_by FV.slot_lower FV.type_lower (fun _ e => nomatch e) h
theorem lower_f {prog : Program} {w : World} {A : Around} {E : Value → Shared → Prop} {s : Shared} {b : Array UInt8} {t : Tok} {Q : Value → Shared → Prop} (hb : b = #[102]) (h : ∀ t' k, Q (.bytes #[102] t') { s with toks := k }) :
    wpAny (model prog w) A (call (.builtin "bytes.lower") [.bytes b t]) Q E s := by
  subst hb
  refine wpAny_call_entry FV.slot_lower (PySem.W.typeIs_bytes _ _ _) FV.entry_lower ?_ (FV.args_lower _)
  unfold Builtin.«bytes.lower» Builtin.Bytes.mappedM
  refine wpAny_bind (m := selfOnly _ _) (wpAny_bind (wpAny_pure (wpAny_pure ?_)))
  refine wpAny_bind (m := Builtin.Bytes.payload _) (wpAny_bind (wpAny_pure (wpAny_pure ?_)))
  refine wpAny_bind (m := Builtin.Bytes.Kind.new .bytes _) (wpAny_mkBytes ?_ ?_)
  · exact wpAny_pure ⟨_, rfl, h _ _⟩
  · rw [sizeLine_eq]; decide
theorem namefault_spec (c : Cx) (b : Array UInt8) (t : Tok) (news : Led) (hb : b = #[102]) :
   Spec c 223 8 80 [.bytes b t] news [] (fun v n => (∀ p ∈ news, p ∈ n) ∧ v = .none) := by
  refine' enter (binds := [(Str.ofString "name", .bytes b t)]) ?k6 ?k7 ?k9 ?kB ?c2 ?c3 ?c4 ?c5 ?_
  ((case k6 => k_is); (case k7 => k_is); (case k9 => intro s9 X9; first | exact BindsTo.of_eq rfl | exact binds_K X9 rfl (by k_is) rfl rfl rfl); (case kB => exact locs rfl); (case c2 => exact rfl); (case c3 => exact rfl); (case c4 => exact rfl); (case c5 => decide); skip)
  intro dp un gd outer A₀ base g L' h₁ tk s C hd9 hu9; obtain ⟨B, F, X, N, T, hk9⟩ := C; (try dsimp only); k_fold; (try (refine letA (P := fun A9 => wpAny _ A9 _ _ _ _) _ ?_; intro A9))
  have q1 : (b.toList == #[].toList) = false := by subst hb; decide
  k_steps
  rename Fr _ _ _ _ => F1
  rename News _ _ _ _ => N1
  refine in_bt (v := false) ⟨_, (N1 _ (.head _)).1, rfl, 0, rfl⟩ (by subst hb; decide) ?_
  k_steps
  refine getM_lower ?_
  dsimp only
  k_steps
  refine lower_f hb fun t9 k9 => ?_
  have q2 : ((#[102] : Array UInt8).toList == (#[46, 103, 105, 116] : Array UInt8).toList) = false := by decide
  dsimp only
  k_steps
  unfold Stop9
  refine' Spec.use (hassign_spec c b _ _ _ _ hb rfl) ?sB ?sF ?sX ?sN ?sT ?sk ?sd ?su ?_
  ((case sB => assumption); (case sF => assumption); (case sX => assumption); (case sN => assumption); (case sT => assumption); (case sk => first | rfl | assumption); (case sd => (first | (refine' room9 ?rh ?rk; (case rh => assumption); (case rk => rfl)) | (refine' room1 ?rh ?rk; (case rh => assumption); (case rk => rfl)) | omega)); (case su => (first | (refine' room9 ?rh ?rk; (case rh => assumption); (case rk => rfl)) | (refine' room1 ?rh ?rk; (case rh => assumption); (case rk => rfl)) | omega)))
  rintro v n9 h9 t9 ⟨hs8, rfl⟩ hs9 F9 N9 K9
  dsimp only
  k_steps
  exact ⟨_, n9, F9, N9, fun p hp _ => hs8 p (.tail _ hp), ⟨fun p hp => hs8 p (.tail _ hp), rfl⟩, rfl, rfl, rfl⟩
end J_V4
example : True := by
  k_with_none
  (k_with "call ref" => refine stop_ref rfl ?_)
  (k_with "eval ListComp" => with_reducible refine stopP0 ?_)
  (k_with "exec For" => with_reducible refine stopP1 ?_)
  (k_with "exec Assign cons ListComp" => with_reducible refine stopP2 ?_)
  (k_with "call type:bytes" => (with_reducible show wpAny _ _ (call (Value.type "bytes") [Value.bytes _ _]) _ _ _; refine bytes_bytes ?_))
  (k_with "subscriptTail" => (with_reducible show wpAny _ _ (subscriptTail _ _ (Value.ref _) (Value.str _ _)) _ _ _; refine' kda_item (knd := PySem.strKind _ _) ?iN ?im ?ih (strKind_is _ _ _ _) ?iv ?_; (case iN => assumption); (case im => assumption); (case ih => assumption); (case iv => with_unfolding_all rfl)))
  (k_with "binaryOp Add bytes bytes" => ((with_reducible show wpAny _ _ (binaryOp Operator.Add (Value.bytes _ _) (Value.bytes _ _)) _ _ _); (refine KBy.add_bytes (by first | assumption | ((try simp only [Array.size_append, List.size_toArray, List.length_cons, List.length_nil]); omega)) ?_); intro _ _))
  (k_with "call builtin:len" => ((with_reducible show wpAny _ _ (call (Value.builtin "len") [Value.bytes _ _]) _ _ _); (refine len_bytes (by first | assumption | omega) ?_)))
  trivial
example {M : Model} {A : Around} {Q : Unit → Shared → Prop} {E : Value → Shared → Prop} {s : Shared} : wpAny M A (pure ()) Q E s ∨ True := by w_top off; first | (left; walk1; done) | (right; trivial)
section J_V5
theorem sortkey_spec (c : Cx) (en de : Addr) (news : Led) (hE : EntryIn news en de) :
   Spec c 188 3 30 [.ref en] news [] (fun v n => n = news ∧ ∃ t, v = .bytes #[102] t) := by
  refine' enter (binds := [(Str.ofString "self", .ref en)]) ?k6 ?k7 ?k9 ?kB ?c2 ?c3 ?c4 ?c5 ?_
  ((case k6 => k_is); (case k7 => k_is); (case k9 => intro s9 X9; first | exact BindsTo.of_eq rfl | exact binds_K X9 rfl (by k_is) rfl rfl rfl); (case kB => exact locs rfl); (case c2 => exact rfl); (case c3 => exact rfl); (case c4 => exact rfl); (case c5 => decide); skip)
  intro dp un gd outer A₀ base g L' h₁ tk s C hd9 hu9; obtain ⟨B, F, X, N, T, hk9⟩ := C; (try dsimp only); k_fold; (try (refine letA (P := fun A9 => wpAny _ A9 _ _ _ _) _ ?_; intro A9))
  refine hushL ?_
  intro hG
  obtain ⟨m1, hz1, t1, t2, hz2, t3, t4, hz3, t5, t6, n, m2⟩ := hE
  k_unfold
  clear hG
  k_steps
  exact ⟨_, _, F, N, fun p hp _ => hp, ⟨rfl, _, rfl⟩, rfl, rfl, rfl⟩
end J_V5
example {M : Model} {A : Around} {Q : Unit → Shared → Prop} {E : Value → Shared → Prop} {s : Shared} : wpAny M A (pure ()) Q E s ∨ True := by w_top off; first | (left; walk1; done) | (right; trivial)
section J_H0
/-- the post, hidden behind a variable: keeps the steps' terms small -/
theorem hideQ {α : Type} {M : Model} {A : Around} {m : Sem α} {Q : α → Shared → Prop} {E : Value → Shared → Prop} {s : Shared}
    (h : ∀ Q' : α → Shared → Prop, (∀ v s', Q v s' → Q' v s') → wpAny M A m Q' E s) : wpAny M A m Q E s := h Q (fun _ _ h => h)
theorem hideQE {α : Type} {M : Model} {A : Around} {m : Sem α} {Q : α → Shared → Prop} {E : Value → Shared → Prop} {s : Shared}
    (h : ∀ (Q' : α → Shared → Prop) (E' : Value → Shared → Prop), (∀ v s', Q v s' → Q' v s') → (∀ v s', E v s' → E' v s') → wpAny M A m Q' E' s) : wpAny M A m Q E s := h Q E (fun _ _ h => h) (fun _ _ h => h)
theorem cb_mono {M : Model} {A : Around} {env : Env} {E E' : Value → Shared → Prop} {x : Value} {s : Shared} (h : ∀ v s, E v s → E' v s) (z : cameBackBy M A env E x s) : cameBackBy M A env E' x s :=
  wpAny_mono z (fun _ _ h' => h _ _ h') fun _ _ h' => h _ _ h'
theorem hush {P : Prop} (h : ∀ G : Prop, (P → G) → G) : P := h P id
theorem hideR {α : Type} {M : Model} {A : Around} {m : Sem α} {Q : α → Shared → Prop} {s : Shared}
    (h : ∀ Q' : α → Shared → Prop, (∀ v s', Q v s' → Q' v s') → wpR M A m Q' s) : wpR M A m Q s := h Q (fun _ _ h => h)
/-- as «SrcOk», and the iterator stands -/
noncomputable def SrcOkE (prog : Program) (w : World) (xv : Value) (n : Nat) (P : Nat → Value → Prop) (src : List Addr) (s₁ : Shared) : Prop :=
  ∀ (A : Around) (Q : Value → Shared → Prop) (E : Value → Shared → Prop), A.handled = none →
    (∀ o fp St, Walks prog w A s₁.heap.objs.size fp [s₁.heap.objs.size] n P St → St 0 (s₁.heap.push o) → (∀ b ∈ fp, b ≤ s₁.heap.objs.size) → (∀ b ∈ fp, b = s₁.heap.objs.size ∨ b ∈ src) → s₁.heap.objs.size ∈ fp → (∀ i h, St i h → ∃ o, h.get? s₁.heap.objs.size = some o) → Q (.ref s₁.heap.objs.size) { s₁ with heap := s₁.heap.push o }) →
    wpAny (model prog w) A (pyIter xv) Q E s₁
theorem srcE_tuple {prog : Program} {w : World} {s₁ : Shared} {l : Addr} {items : Array Value} (hl : s₁.heap.IsTuple l items) : SrcOkE prog w (.ref l) items.size (fun i v => items[i]? = some v) [l] s₁ := fun A Q E hA hQ => by
  refine hushL ?_
  intro hG
  obtain ⟨ol, hol, _⟩ := id hl
  k_unfold
  clear hG
  have hlt := Heap.lt_size hol
  refine wpAny_pyIter_tuple hl (hQ _ _ _ (Walks.tuple hA _ l (Nat.ne_of_lt hlt) items) ⟨⟨_, Heap.get?_push_size _ rfl, rfl, rfl⟩, hl.push _⟩ ?_ (by intro b hb; rcases List.mem_cons.mp hb with rfl | hb; exact .inl rfl; exact .inr hb) (List.mem_cons_self ..) (fun i h hS => ⟨_, hS.1.choose_spec.1⟩))
  intro b hb
  rcases List.mem_cons.mp hb with rfl | hb
  · exact Nat.le_refl _
  · rw [List.mem_singleton.mp hb]; exact Nat.le_of_lt hlt
theorem srcE_range {prog : Program} {w : World} {s₁ : Shared} {r : Addr} {n : Nat} {t u v : Tok} (hr : IsRange s₁.heap r 0 (n : Int) 1 t u v) (hn : n ≤ 1000) : SrcOkE prog w (.ref r) n (fun i v => ∃ t, v = .int (0 + (i : Int) * 1) t) [] s₁ := fun A Q E hA hQ => by
  have hz : Builtin.Range.rangeSize 0 (n : Int) 1 = (n : Int) := by
    unfold Builtin.Range.rangeSize
    simp
    omega
  refine wpAny_pyIter_range hr ?_ (hQ _ [s₁.heap.objs.size] _ (Walks.range hA _ 0 1 n) ?_ ?_ ?_ (List.mem_cons_self ..) (fun i h hS => ⟨_, hS⟩))
  · unfold Builtin.Range.small
    rw [hz]
    unfold Builtin.Range.rangeFitsLong
    simp
    omega
  · show IsRangeIter _ _ _ _ _
    rw [hz]
    simpa using Heap.get?_push_size _ rfl
  · intro b hb; rw [List.mem_singleton.mp hb]; exact Nat.le_refl _
  · intro b hb; exact .inl (List.mem_singleton.mp hb)
/-- as «for_goQ», and the iterator stands in the ledger -/
theorem for_goE {prog : Program} {w : World} {A : Around} {E : Value → Shared → Prop} {env : Env} {xv : Value} {n : Nat} {P : Nat → Value → Prop} {src : List Addr} {s₁ : Shared} {h₀ : Heap} {x : Str} {body : List Stmt} {Q : Flow → Shared → Prop} {m : Str → Option Value} {news : Led} (J : Nat → (Str → Option Value) → Led → Prop) (hh : A.handled = none)
    (hsrc : SrcOkE prog w xv n P src s₁) (hL : env.locals ∉ src) (F : Fr h₀ env.locals s₁.heap m) (N : News h₀ env.locals s₁.heap news) (hj : J 0 m news)
    (turn : ∀ I oI i v m₁ nx h tk own (QT : Flow → Shared → Prop), i < n → P i v → J i m₁ nx → (∀ p ∈ nx, p.1 ≠ I) → (∀ p ∈ own, p.1 = I ∨ p.1 ∈ src) → (I, oI) ∈ own → Fr h₀ env.locals h (fun y => if y = x then some v else m₁ y) → News h₀ env.locals h (nx ++ own) →
      (∀ h' tk' m' news' nx', Fr h₀ env.locals h' m' → News h₀ env.locals h' news' → (∀ p ∈ nx', p ∈ news') → (∀ p ∈ own, p ∈ news') → (∀ p ∈ nx', p.1 ≠ I) → J (i + 1) m' nx' → QT .next { s₁ with heap := h', toks := tk' }) →
      wpAny (model prog w) A (execs body env) QT E { s₁ with heap := h, toks := tk })
    (done : ∀ m₁ nx h tk, J n m₁ nx → Fr h₀ env.locals h m₁ → News h₀ env.locals h nx → Q .next { s₁ with heap := h, toks := tk }) :
    wpAny (model prog w) A (pyIter xv) (fun it s₂ => LoopAtV prog w A h₀ env x body Q E it s₂) E s₁ := by
  refine hsrc A _ _ hh fun o fp St W h0 hfp hsub hIf hSt => ?_
  have hnI : ∀ p ∈ news, p.1 ∉ [s₁.heap.objs.size] := fun p hp hI => absurd (Heap.lt_size (N p hp).1) ((List.mem_singleton.mp hI) ▸ Nat.lt_irrefl _)
  have hLf : env.locals ∉ fp := fun hm => (hsub _ hm).elim (fun e => absurd F.ns.lt (e ▸ Nat.lt_irrefl _)) hL
  have hnew : ∀ b ∈ [s₁.heap.objs.size], h₀.get? b = none := by
    intro b hb
    rw [List.mem_singleton.mp hb]
    exact next_is_new F
  refine ⟨_, fp, _, n, P, St, m, news, J, rfl, W, hLf, hnew, hnI, h0, F.push o, (fun p hp => ⟨Heap.get?_push_of_some _ (N p hp).1, (N p hp).2⟩), hj, ?_, ?_⟩
  · rintro i v m₁ nx s₃ own ⟨hh', tk', rfl⟩ hin hP hJ hoff hown h5 h6 h7 F₁ N₁
    have N₂ : News h₀ env.locals hh' (nx ++ own) := fun p hp => N₁ p ((List.mem_append.mp hp).elim (fun h => List.mem_append.mpr (.inr h)) fun h => List.mem_append.mpr (.inl h))
    obtain ⟨oI, hoI⟩ := hSt _ _ h7
    refine wpAny_mono (turn _ oI i v m₁ nx hh' tk' own _ hin hP hJ (fun p hp e => hoff p hp (by rw [e]; exact .head _)) (fun p hp => hsub _ (hown p hp)) (h6 _ hIf (hnew _ (.head _)) _ hoI) F₁ N₂ (fun h' tk'' m' news' nx' F9 N9 hs9 ho9 hI9 hJ9 => ?_)) (fun f s₄ hq => hq) fun _ _ e => e
    exact .next ⟨rfl, h', tk'', m', nx', rfl, F9, fun p hp => N9 p ((List.mem_append.mp hp).elim (ho9 p) (hs9 p)), fun p hp hq => hI9 p hp (List.mem_singleton.mp hq), hJ9⟩
  · rintro h' tk m' nx F' N' _ hJ
    exact done m' nx h' tk hJ F' N'
end J_H0
example {M : Model} {A : Around} {Q : Unit → Shared → Prop} {E : Value → Shared → Prop} {s : Shared} : wpAny M A (pure ()) Q E s ∨ True := by w_top off; first | (left; walk1; done) | (right; trivial)
section J_V6
theorem nw_map {h₀ h : Heap} {L : Addr} {news : Led} (N : News h₀ L h news) : ∃ NX, NX = news ∧ News h₀ L h NX := ⟨news, rfl, N⟩
theorem EntryIn.elim {news : Led} {en de : Addr} {G : Prop} (h : EntryIn news en de)
    (k : ∀ h1 t1 t2 h2 t3 t4 h3 t5 t6 n, (en, instObj 205 de) ∈ news → (de, dictOf [⟨h1, .str (Str.ofString "mode") t1, .int 33188 t2⟩, ⟨h2, .str (Str.ofString "name") t3, .bytes #[102] t4⟩, ⟨h3, .str (Str.ofString "oid") t5, .bytes (idA 1) t6⟩] n) ∈ news → G) : G := by
  refine hushL ?_
  intro hG
  obtain ⟨a, h1, t1, t2, h2, t3, t4, h3, t5, t6, n, b⟩ := h
  k_unfold
  clear hG
  exact k _ _ _ _ _ _ _ _ _ _ a b
theorem modes_at (w : World) : ∃ d n sl t1 t2 t3 t4 t5, (hd.heap_1 w.params).lookup 125 = some ⟨.type "tuple", d, .seq #[.int 33188 t1, .int 33261 t2, .int 40960 t3, .int 16384 t4, .int 57344 t5] n, sl⟩ := ⟨_, _, _, _, _, _, _, _, by k_is⟩
theorem mode_in {w : World} {g : Heap} {L : Addr} {m : Str → Option Value} {prog : Program} {A : Around} {E : Value → Shared → Prop} {s : Shared} {t : Tok} {Q : Value → Shared → Prop} (X : (hd.heap_1 w.params).In g) (F : Fr g L s.heap m) (h : Q (.bool false) s) :
    wpAny (model prog w) A (compareOp .NotIn (.int 33188 t) (.ref 125)) Q E s := by
  refine hushL ?_
  intro hG
  obtain ⟨d, n, sl, t1, t2, t3, t4, t5, ho⟩ := modes_at w
  k_unfold
  clear hG
  refine PySem.SeqAt.notIn_tupleAt (fun y => match y with | .int y _ => y == 33188 | _ => false) ⟨_, F.keep _ _ (X _ _ ho), rfl, _, rfl⟩ (fun y hy => ?_) (by
    rw [show (!#[Value.int 33188 t1, Value.int 33261 t2, Value.int 40960 t3, Value.int 16384 t4, Value.int 57344 t5].any fun y => match y with | .int y _ => y == 33188 | _ => false) = false from by simp]; exact h)
  have hy' : y = .int 33188 t1 ∨ y = .int 33261 t2 ∨ y = .int 40960 t3 ∨ y = .int 16384 t4 ∨ y = .int 57344 t5 := by simpa using hy
  rcases hy' with rfl | rfl | rfl | rfl | rfl <;> exact fun _ _ _ _ hq => wpAny_eqBool_int hq
noncomputable def faM (av ov ev : Option Value) (M0 : Str → Option Value) (y : Str) : Option Value := if y = Str.ofString "ahead" then av else if y = Str.ofString "odd" then ov else if y = Str.ofString "entry" then ev else M0 y
inductive FaJ (NX news : Led) (l : Addr) (M0 : Str → Option Value) : Nat → (Str → Option Value) → Led → Prop
  | start : FaJ NX news l M0 0 M0 NX
  | fin (av ov ev : Option Value) (nx : Led) (k : Nat) (h : (l, listOf #[] k) ∈ nx) (hs : ∀ p ∈ news, p ∈ nx) : FaJ NX news l M0 1 (faM av ov ev M0) nx
theorem faults_spec (c : Cx) (tr dt le en de : Addr) (news : Led) (hT : TreeIn news tr dt le en de) :
   Spec c 265 15 200 [.ref tr] news [] (fun v n => (∀ p ∈ news, p ∈ n) ∧ ∃ l k, v = .ref l ∧ (l, listOf #[] k) ∈ n) := by
  refine' enter (binds := [(Str.ofString "tree", .ref tr)]) ?k6 ?k7 ?k9 ?kB ?c2 ?c3 ?c4 ?c5 ?_
  ((case k6 => k_is); (case k7 => k_is); (case k9 => intro s9 X9; first | exact BindsTo.of_eq rfl | exact binds_K X9 rfl (by k_is) rfl rfl rfl); (case kB => exact locs rfl); (case c2 => exact rfl); (case c3 => exact rfl); (case c4 => exact rfl); (case c5 => decide); skip)
  intro dp un gd outer A₀ base g L' h₁ tk s C hd9 hu9; obtain ⟨B, F, X, N, T, hk9⟩ := C; (try dsimp only); k_fold; (try (refine letA (P := fun A9 => wpAny _ A9 _ _ _ _) _ ?_; intro A9))
  refine hushL ?_
  intro hG
  obtain ⟨m1, ⟨hz1, t1, n, m2⟩, ⟨nl, m3⟩, hE⟩ := id hT
  k_unfold
  clear hG
  k_steps
  unfold Stop9
  rename Fr _ _ _ _ => F1
  rename News _ _ _ _ => N1
  rename Obj.IsDictOf (PySem.strKind _ _) _ _ => hd1
  rename (_ == sysModules) = false => lo
  replace hd1 := empty_kind (k' := KB c.w) hd1
  rename_i l _ lt1 d _ od _ _ _ lt2 D _ _ _ _ _ hh
  dsimp only
  have m3' := N1.isList (.tail _ (.tail _ (.tail _ m3)))
  have zle := (N1 _ (.tail _ (.tail _ (.tail _ m3)))).2.1
  refine' for_goQ (FaJ ((D, { cls := .type "tuple", data := .seq #[.ref l, .ref d, .none] }) :: (d, od) :: (l, listOf #[] 0) :: news) news l (fun y => if y = Str.ofString "found" then some (.ref l) else if y = Str.ofString "known" then some (.ref d) else if y = Str.ofString "ahead" then some .none else List.lookup y [(Str.ofString "tree", .ref tr)].reverse)) ?fh ?fs ?fL ?fF ?fN .start ?_ ?_
  case fF => exact F1
  case fN => exact N1
  case fh => rfl
  case fs => exact src_list m3'
  case fL => intro hm; exact zle (List.mem_singleton.mp hm).symm
  · clear F1 N1 m3' zle
    intro I i v m₁ nx h tk own QT hi hv hJ hnI hown F3 N3 hQT
    obtain rfl : i = 0 := Nat.lt_one_iff.mp hi
    cases hJ
    obtain rfl : v = .ref en := (Option.some.inj hv).symm
    replace lt1 : ∀ p ∈ news, p.1 < d := fun p hp => Nat.lt_trans (lt1 p hp) lt2.1
    refine hE.elim fun _ _ _ _ _ _ _ _ _ _ hu1 hu2 => ?_
    have u1 := hu1
    have u2 := hu2
    k_steps
    refine mode_in X (by assumption) ?_
    k_steps
    unfold Stop9
    refine' Spec.use (namefault_spec c _ _ _ rfl) ?sB ?sF ?sX ?sN ?sT ?sk ?sd ?su ?_
    ((case sB => assumption); (case sF => assumption); (case sX => assumption); (case sN => assumption); (case sT => assumption); (case sk => first | rfl | assumption); (case sd => (first | (refine' room9 ?rh ?rk; (case rh => assumption); (case rk => rfl)) | (refine' room1 ?rh ?rk; (case rh => assumption); (case rk => rfl)) | omega)); (case su => (first | (refine' room9 ?rh ?rk; (case rh => assumption); (case rk => rfl)) | (refine' room1 ?rh ?rk; (case rh => assumption); (case rk => rfl)) | omega)))
    intro v n9 h9 t9 hv9 hs9 F9 N9 K9
    replace hs9 := hv9.1
    obtain rfl := hv9.2
    replace u1 := hs9 _ (List.mem_append_left _ (.tail _ (.tail _ (.tail _ u1))))
    replace u2 := hs9 _ (List.mem_append_left _ (.tail _ (.tail _ (.tail _ u2))))
    have u3 : (l, listOf #[] 0) ∈ n9 := hs9 _ (List.mem_append_left _ (.tail _ (.tail _ (.head _))))
    have u4 : (d, od) ∈ n9 := hs9 _ (List.mem_append_left _ (.tail _ (.head _)))
    dsimp only
    k_steps
    refine in_led (by assumption) u4 hd1 lo (keyB _ _) ?_
    rw [valueAt_none (by simp)]
    k_steps
    unfold Stop9
    refine' Spec.use (areall_spec c _ _ _ _ _ rfl rfl) ?sB ?sF ?sX ?sN ?sT ?sk ?sd ?su ?_
    ((case sB => assumption); (case sF => assumption); (case sX => assumption); (case sN => assumption); (case sT => assumption); (case sk => first | rfl | assumption); (case sd => (first | (refine' room9 ?rh ?rk; (case rh => assumption); (case rk => rfl)) | (refine' room1 ?rh ?rk; (case rh => assumption); (case rk => rfl)) | omega)); (case su => (first | (refine' room9 ?rh ?rk; (case rh => assumption); (case rk => rfl)) | (refine' room1 ?rh ?rk; (case rh => assumption); (case rk => rfl)) | omega)))
    intro v n8 h8 t8 hv8 hs8 F8 N8 K8
    replace hs8 := hv8.1
    obtain rfl := hv8.2
    replace u1 := hs8 _ u1
    replace u2 := hs8 _ u2
    replace u3 := hs8 _ u3
    replace u4 := hs8 _ u4
    dsimp only
    k_steps
    rename Fr _ _ _ _ => F5
    rename News _ _ _ _ => N5
    refine set_led F5 N5 u4 hd1 (keyB _ _) (by simp) (fun h6 o6 F6 N6 hd6 => ?_)
    dsimp only
    clear F5 N5
    replace u1 := upd_old (o' := o6) u1 (Nat.ne_of_lt (lt1 _ hu1))
    replace u2 := upd_old (o' := o6) u2 (Nat.ne_of_lt (lt1 _ hu2))
    replace u3 := upd_old (o' := o6) u3 (Nat.ne_of_lt lt2.1)
    k_steps
    unfold Stop9
    refine' Spec.use (sortkey_spec c en de _ ⟨u1, _, _, _, _, _, _, _, _, _, _, u2⟩) ?sB ?sF ?sX ?sN ?sT ?sk ?sd ?su ?_
    ((case sB => assumption); (case sF => assumption); (case sX => assumption); (case sN => assumption); (case sT => assumption); (case sk => first | rfl | assumption); (case sd => (first | (refine' room9 ?rh ?rk; (case rh => assumption); (case rk => rfl)) | (refine' room1 ?rh ?rk; (case rh => assumption); (case rk => rfl)) | omega)); (case su => (first | (refine' room9 ?rh ?rk; (case rh => assumption); (case rk => rfl)) | (refine' room1 ?rh ?rk; (case rh => assumption); (case rk => rfl)) | omega)))
    intro v n7 h7 t7 hv7 hs7 F7 N7 K7
    obtain ⟨rfl, tv, rfl⟩ := hv7
    dsimp only
    k_steps
    rename Fr _ _ _ _ => F9
    rename News _ _ _ _ => N9
    refine hQT _ _ _ _ ((l, listOf #[] 0) :: news) F9 N9 ?_ ?_ (fun p hp => hnI p (.tail _ (.tail _ hp))) (.fin _ _ _ _ 0 (.head _) (fun p hp => .tail _ hp))
    · intro p hp
      rcases List.mem_cons.mp hp with rfl | hp
      · exact u3
      · exact upd_off (hs8 _ (hs9 _ (List.mem_append_left _ (.tail _ (.tail _ (.tail _ hp)))))) (Nat.ne_of_lt (lt1 p hp))
    · intro p hp
      refine upd_off (hs8 _ (hs9 _ (List.mem_append_right _ hp))) ?_
      rcases hown p hp with e | e
      · rw [e]; exact (hnI _ (.tail _ (.head _))).symm
      · rw [List.mem_singleton.mp e]; exact Nat.ne_of_lt (lt1 _ m3)
  · intro m₁ nx h tk hJ F4 N4
    cases hJ with
    | fin av ov ev nx k hl hs =>
    show wpAny _ _ (execs _ _) _ _ _
    dsimp only
    unfold faM at F4
    k_steps
    rename Fr _ _ _ _ => F9
    rename News _ _ _ _ => N9
    exact ⟨_, _, F9, N9, fun p hp _ => hs p hp, ⟨hs, l, k, rfl, hl⟩, rfl, rfl, rfl⟩
end J_V6
example {M : Model} {A : Around} {Q : Unit → Shared → Prop} {E : Value → Shared → Prop} {s : Shared} : wpAny M A (pure ()) Q E s ∨ True := by w_top off; first | (left; walk1; done) | (right; trivial)
section J_V7
theorem check_spec (c : Cx) (tr dt le en de : Addr) (news : Led) (hT : TreeIn news tr dt le en de) :
   Spec c 272 20 250 [.ref tr] news [] (fun v n => (∀ p ∈ news, p ∈ n) ∧ v = .none) := by
  refine' enter (binds := [(Str.ofString "tree", .ref tr)]) ?k6 ?k7 ?k9 ?kB ?c2 ?c3 ?c4 ?c5 ?_
  ((case k6 => k_is); (case k7 => k_is); (case k9 => intro s9 X9; first | exact BindsTo.of_eq rfl | exact binds_K X9 rfl (by k_is) rfl rfl rfl); (case kB => exact locs rfl); (case c2 => exact rfl); (case c3 => exact rfl); (case c4 => exact rfl); (case c5 => decide); skip)
  intro dp un gd outer A₀ base g L' h₁ tk s C hd9 hu9; obtain ⟨B, F, X, N, T, hk9⟩ := C; (try dsimp only); k_fold; (try (refine letA (P := fun A9 => wpAny _ A9 _ _ _ _) _ ?_; intro A9))
  k_steps
  unfold Stop9
  refine' Spec.use (faults_spec c tr dt le en de _ hT) ?sB ?sF ?sX ?sN ?sT ?sk ?sd ?su ?_
  ((case sB => assumption); (case sF => assumption); (case sX => assumption); (case sN => assumption); (case sT => assumption); (case sk => first | rfl | assumption); (case sd => (first | (refine' room9 ?rh ?rk; (case rh => assumption); (case rk => rfl)) | (refine' room1 ?rh ?rk; (case rh => assumption); (case rk => rfl)) | omega)); (case su => (first | (refine' room9 ?rh ?rk; (case rh => assumption); (case rk => rfl)) | (refine' room1 ?rh ?rk; (case rh => assumption); (case rk => rfl)) | omega)))
  intro v n9 h9 t9 zy31 hs9 F9 N9 K9
  refine hushL ?_
  intro hGG
  obtain ⟨hs8, l, k, rfl, hl⟩ := zy31
  k_unfold
  clear hGG
  dsimp only
  k_steps
  exact ⟨_, n9, by assumption, by assumption, fun p hp _ => hs8 p hp, ⟨hs8, rfl⟩, rfl, rfl, rfl⟩
theorem seen_tree (k : Cnt) (mid : Array UInt8) (h : k.nt = 0) : ¬ Seen k (#[116, 114, 101, 101] ++ #[32] ++ mid ++ #[0] ++ entB).toList ∧ Seen { k with nt := 1 } (#[116, 114, 101, 101] ++ #[32] ++ mid ++ #[0] ++ entB).toList := by
  have e : (#[116, 114, 101, 101] ++ #[32] ++ mid ++ #[0] ++ entB : Array UInt8).toList = 116 :: 114 :: ([101, 101, 32] ++ mid.toList ++ [0] ++ entB.toList) := by simp
  have hs : ∃ x, sig (#[116, 114, 101, 101] ++ #[32] ++ mid ++ #[0] ++ entB : Array UInt8).toList = (some 116, some 114, x) := by rw [e]; exact ⟨_, rfl⟩
  refine ⟨?_, .inr (.inr (.inr (.inl ⟨Nat.one_pos, hs⟩)))⟩
  obtain ⟨x, hx⟩ := hs
  unfold Seen
  rw [hx]
  rintro (⟨g', _, h2, e⟩ | ⟨_, e⟩ | ⟨_, e⟩ | ⟨hh, _, e⟩ | ⟨j, hj, e⟩ | ⟨_, _, e⟩) <;> simp only [Prod.mk.injEq, Option.some.injEq] at e
  · exact absurd e.1 (by decide)
  · exact absurd e.1 (by decide)
  · exact absurd e.1 (by decide)
  · omega
  · exact absurd e.1 (by decide)
  · exact absurd e.2.1 (by decide)
theorem wtree_spec (c : Cx) (a : Ads) (cnt : Nat) (k : Cnt) (tr dt le en de : Addr) (news : Led) (kvs : List (List UInt8 × Value)) (hF : Frame9 news a) (hH : Hashed c.w news a.kn cnt k) (hK : KnIn c.w news a.kp kvs) (hT : TreeIn news tr dt le en de)
    (hc : cnt ≤ 200) (hn : idL (cnt + 1) ∉ kvs.map (·.1)) (hl : kvs.length ≤ 900) (hj : k.nt = 0) :
   SpecR c 399 30 400 [.ref a.st, .ref tr] news [a.kn, a.kp] (fun r n' => Wrote c.w news n' a cnt { k with nt := 1 } kvs #[116, 114, 101, 101] (fun th => th = .ref tr) r) := by
  refine' enterR (binds := [(Str.ofString "self", .ref a.st), (Str.ofString "tree", .ref tr)]) ?k6 ?k7 ?k9 ?kB ?c2 ?c3 ?c4 ?c5 ?_
  ((case k6 => k_is); (case k7 => k_is); (case k9 => intro s9 X9; first | exact BindsTo.of_eq rfl | exact binds_K X9 rfl (by k_is) rfl rfl rfl); (case kB => exact locs rfl); (case c2 => exact rfl); (case c3 => exact rfl); (case c4 => exact rfl); (case c5 => decide); skip)
  intro dpt un gd outer A₀ base g9 L' h₁ tk s C hd9 hu9; obtain ⟨B, F, X, N, T, hk9⟩ := C; (try dsimp only)
  refine hideR fun Q9 hQ9 => ?_
  refine wpR_step ?_
  k_fold
  k_steps
  unfold Stop9
  refine' Spec.use (check_spec c tr dt le en de _ hT) ?sB ?sF ?sX ?sN ?sT ?sk ?sd ?su ?_
  ((case sB => assumption); (case sF => assumption); (case sX => assumption); (case sN => assumption); (case sT => assumption); (case sk => first | rfl | assumption); (case sd => (first | (refine' room9 ?rh ?rk; (case rh => assumption); (case rk => rfl)) | (refine' room1 ?rh ?rk; (case rh => assumption); (case rk => rfl)) | omega)); (case su => (first | (refine' room9 ?rh ?rk; (case rh => assumption); (case rk => rfl)) | (refine' room1 ?rh ?rk; (case rh => assumption); (case rk => rfl)) | omega)))
  intro v n9 h9 t9 hv9 hs9 F9 N9 K9
  have hs8 := hv9.1
  obtain rfl := hv9.2
  clear hv9 hs9 K9
  have hF9 := hF.to (S := []) (by simp) (fun p hp _ => hs8 p hp)
  have hH9 := hH.to (S := []) (by simp) (fun p hp _ => hs8 p hp)
  have hK9 := hK.to (S := []) (by simp) (fun p hp _ => hs8 p hp)
  have hT9 := hT.to hs8
  dsimp only
  refine hushL ?_
  intro hG
  obtain ⟨⟨m1, hq1⟩, hz1, t4, hz2, t5, n, m2, hq2⟩ := hF9.st
  k_unfold
  clear hG
  refine hushL ?_
  intro hG
  obtain ⟨m3, ⟨hz3, t6, n3, m4⟩, ⟨nl, m5⟩, hE⟩ := id hT9
  k_unfold
  clear hG
  refine wpR_execs_cons (wpR_Return (wpR_Method ?_))
  k_steps
  refine wpR_callK (K := hd.heap_1 c.w.params) (by k_is) (wpR_args (wpR_any ?_))
  k_steps
  refine wpR_args (wpR_Method ?_)
  k_steps
  rename Fr _ _ _ _ => F5
  rename News _ _ _ _ => N5
  refine wpR_callK0 (K := hd.heap_1 c.w.params) (X.keeps F5.keep) (by k_is) ?_
  refine' SpecR.use (tree_octets_spec c tr dt le en de _ hT9) ?sB ?sF ?sX ?sN ?sT ?sk ?sd ?su ?_
  ((case sB => assumption); (case sF => assumption); (case sX => assumption); (case sN => assumption); (case sT => assumption); (case sk => first | rfl | assumption); (case sd => (first | (refine' room9 ?rh ?rk; (case rh => assumption); (case rk => rfl)) | (refine' room1 ?rh ?rk; (case rh => assumption); (case rk => rfl)) | omega)); (case su => (first | (refine' room9 ?rh ?rk; (case rh => assumption); (case rk => rfl)) | (refine' room1 ?rh ?rk; (case rh => assumption); (case rk => rfl)) | omega)))
  intro r n8 h8 t8 hv8 hs9 F8 N8 K8
  obtain ⟨hs7, te, rfl⟩ := hv8
  refine wpR_any ?_
  replace m1 := hs7 _ m1
  replace m2 := hs7 _ m2
  have hF8 := hF9.to (S := []) (by simp) (fun p hp _ => hs7 p hp)
  have hH8 := hH9.to (S := []) (by simp) (fun p hp _ => hs7 p hp)
  have hK8 := hK9.to (S := []) (by simp) (fun p hp _ => hs7 p hp)
  dsimp only
  k_steps
  refine wpR_any ?_
  refine' Spec.use (keep_spec c a cnt k { k with nt := 1 } _ _ _ _ _ _ kvs hF8 hH8 hK8 (by decide) (by decide) hc hn hl (fun mid => seen_tree k mid hj) (fun l hl => hl.up (Nat.le_refl _) (Nat.le_refl _) (by rw [hj]; exact Nat.zero_le _) (Nat.le_refl _) (Nat.le_refl _))) ?sB ?sF ?sX ?sN ?sT ?sk ?sd ?su ?_
  ((case sB => assumption); (case sF => assumption); (case sX => assumption); (case sN => assumption); (case sT => assumption); (case sk => first | rfl | assumption); (case sd => (first | (refine' room9 ?rh ?rk; (case rh => assumption); (case rk => rfl)) | (refine' room1 ?rh ?rk; (case rh => assumption); (case rk => rfl)) | omega)); (case su => (first | (refine' room9 ?rh ?rk; (case rh => assumption); (case rk => rfl)) | (refine' room1 ?rh ?rk; (case rh => assumption); (case rk => rfl)) | omega)))
  intro r n7 h7 t7 hv7 hs6 F7 N7 K7
  refine hushL ?_
  intro hGG
  obtain ⟨t, τ, rfl, hH10, hK10, hO10, hlt⟩ := hv7
  k_unfold
  clear hGG
  exact hQ9 _ _ ⟨_, n7, F7, N7, fun p hp hn => hs6 p (hs7 p (hs8 p hp)) hn, ⟨t, τ, _, _, rfl, hH10, hK10, hO10, rfl, fun p hp => hlt p (hs7 p (hs8 p hp))⟩, rfl, rfl, rfl⟩
end J_V7
example {M : Model} {A : Around} {Q : Unit → Shared → Prop} {E : Value → Shared → Prop} {s : Shared} : wpAny M A (pure ()) Q E s ∨ True := by w_top off; first | (left; walk1; done) | (right; trivial)
section J_I1
/-- the end of an __init__'s body -/
noncomputable def FinI (g : Heap) (L' x dx : Addr) (news : Led) (R : Value → Led → Prop) (s : Shared) (fl : Flow) (s' : Shared) : Prop :=
  ∃ m' news', flowVal fl = .none ∧ Fr g L' s'.heap m' ∧ News g L' s'.heap news' ∧ (∀ p ∈ news, p ∈ news') ∧ R (.ref x) news' ∧ s'.gens = s.gens ∧ s'.drawn = s.drawn ∧ s'.os = s.os
theorem enterI {c : Cx} {C fI : Addr} {d u : Nat} {vs : List Value} {news : Led} {R : Value → Led → Prop} {name qual : Str} {params : Arguments} {body : List Stmt} {scope : Scope} {dV kV doc pm cdv ct oc : Value} {an od : Option Addr} {osl : Array (Option Value)} {binds : Addr → List (Str × Value)}
    (hm : makesIn (hd.heap_1 c.w.params) C = true) (hi : findIn (hd.heap_1 c.w.params) (.ref C) "__init__" = some (some (.ref fI))) (hf : isFn (hd.heap_1 c.w.params) (.ref fI) = true)
    (ho : (hd.heap_1 c.w.params).lookup fI = some ⟨oc, od, .func (fnOf name qual params body scope dV kV doc pm an cdv ct), osl⟩) (hcd : codeIn (hd.heap_1 c.w.params) cdv qual = true)
    (hbind : ∀ (x : Addr) (s : Shared), (hd.heap_1 c.w.params).In s.heap → BindsTo s (fnOf name qual params body scope dV kV doc pm an cdv ct) ⟨.ref x :: vs, []⟩ (binds x)) (hloc : ∀ x, ∀ y ∈ binds x, scope.names.lookup y.1 = some .local)
    (hco : scope.isCoroutine = false) (hgen : scope.isGenerator = false) (hk : scope.kind = .function) (hcell : ∀ x ∈ scope.names, x.2 ≠ .cell)
    (h : ∀ (dp un : Nat) (gd : Option (List Code)) (outer : List Env) (A₀ : Around) (base g : Heap) (L' : Addr) (h₁ : Heap) (tk : Nat) (s : Shared) (x dx : Addr), (∀ p ∈ news, p.1 < dx) → dx < x →
      At c dp un gd qual scope fI cdv [] outer A₀ base g L' (fun y => (binds x).reverse.lookup y) h₁ ((x, instObj C dx) :: (dx, dictOf [] 0) :: news) → dp + d < recursionLimit + 2 → un + u < cLine + 4 →
      wpAny (model PySem.Challenge.rw_pb0121_01.row.prog c.w) (ktrTop dp un gd qual scope L' fI cdv [] outer) (execs body (envX qual scope L' fI cdv [])) (FinI g L' x dx news R s) (fun _ _ => False) { s with heap := h₁, toks := tk })
    (hd2 : 2 ≤ d) : Spec c C d u vs news [] R := by
  intro dp un gd cn cs a ccd cl outer A₀ base h₀ L m s Q E CC hd9 hu9 hret
  refine hushL ?_
  intro hG
  obtain ⟨B, F, X, N, T, hk9⟩ := CC
  k_unfold
  clear hG
  refine hushL ?_
  intro hG
  obtain ⟨hh, g0, d0, t0, os0⟩ := s
  k_unfold
  clear hG
  have X' := X.keeps F.keep
  refine wpAny_call (make_core (makes_of X' hm) (looks_findIn X' hi) (fun self => bind_fn X' self (beq_iff_eq.mp hf)) (.inl rfl) ?_)
  have eA : (ktrTop dp un gd cn cs L a ccd cl outer).under (.builtin "type.__call__" ⟨.ref C :: vs, []⟩) = ktrTop (dp + 1) (un + 1) gd cn cs L a ccd cl outer := by
    cases gd <;> rfl
  rw [eA]
  have N1 := (N.push F emptyDict).push (F.push _) (instObj C hh.objs.size)
  rw [Heap.size_push] at N1
  have F1 := (F.push emptyDict).push (instObj C hh.objs.size)
  refine code_defG B F1 X N1 T rfl rfl hk9 ho hcd ?_ (hbind _ _ (X.keeps F1.keep)) (hloc _) ?_ hco hgen hk hcell
  · show dp + 1 < recursionLimit
    omega
  · intro g L' h₁ FG F' N' B' X' T' kG
    have z := h (dp + 1 + 1) (un + 1 + 3) gd (envX cn cs L a ccd cl :: outer) _ base g L' h₁ (t0 + (binds (hh.objs.size + 1)).length) ⟨(hh.push emptyDict).push (instObj C hh.objs.size), g0, d0, t0, os0⟩ (hh.objs.size + 1) hh.objs.size (fun p hp => Heap.lt_size (N p hp).1) (Nat.lt_succ_self _)
      ⟨B', F', X', N', T', hk⟩ (by omega) (by omega)
    refine wpAny_mono z (fun fl s' hf => ?_) (fun e s' he => he.elim)
    refine hushL ?_
    intro hG
    obtain ⟨m', n', hfl, Fm, Nm, hs, hR, e1, e2, e3⟩ := hf
    k_unfold
    clear hG
    have q := fin_out (h₀ := h₀) (L := L) (m := m) (R := fun r n => r = .none ∧ R (.ref (hh.objs.size + 1)) n) (S := [hh.objs.size + 1, hh.objs.size]) (Q := fun v s' => v = .none ∧ Q (.ref (hh.objs.size + 1)) s') (s := ⟨(hh.push emptyDict).push (instObj C hh.objs.size), g0, d0, t0, os0⟩) (s' := s') (fl := fl) (fun _ _ => .inr trivial) N1 kG
      (fun r n8 h8 t8 hr hs8 F8 N8 K8 => ⟨hr.1, hret _ n8 h8 t8 hr.2 (fun p hp _ => hs8 p (.tail _ (.tail _ hp)) (fun hm => by
          have := Heap.lt_size (N p hp).1
          rcases List.mem_cons.mp hm with e | hm
          · rw [e] at this; exact absurd this (by show ¬ hh.objs.size + 1 < hh.objs.size; omega)
          · rw [List.mem_singleton.mp hm] at this; exact Nat.lt_irrefl _ this)) F8 N8 (fun b o e hb => K8 b o (Heap.get?_push_of_some _ (Heap.get?_push_of_some _ e)) (fun hm => by
          have := Heap.lt_size e
          rcases List.mem_cons.mp hm with e | hm
          · rw [e] at this; exact absurd this (by show ¬ hh.objs.size + 1 < hh.objs.size; omega)
          · rw [List.mem_singleton.mp hm] at this; exact Nat.lt_irrefl _ this))⟩)
      ⟨m', n', Fm, Nm, fun p hp hn => by
        rcases List.mem_cons.mp hp with rfl | hp
        · exact absurd (List.mem_cons_self ..) hn
        rcases List.mem_cons.mp hp with rfl | hp
        · exact absurd (List.mem_cons_of_mem _ (List.mem_cons_self ..)) hn
        exact hs p hp, ⟨hfl, hR⟩, e1, e2, e3⟩
    refine hushL ?_
    intro hG
    obtain ⟨L9, m9, n9, F9, N9, k9⟩ := q
    k_unfold
    clear hG
    refine ⟨L9, m9, n9, F9, N9, fun a b => ?_⟩
    have := k9 a b
    cases fl <;> exact this
end J_I1
example {M : Model} {A : Around} {Q : Unit → Shared → Prop} {E : Value → Shared → Prop} {s : Shared} : wpAny M A (pure ()) Q E s ∨ True := by w_top off; first | (left; walk1; done) | (right; trivial)
section J_I2
theorem person_new (c : Cx) (news : Led) (M : List Addr) (t1 t2 t3 t4 : Tok) (hM : ∀ D, (∀ p ∈ news, p.1 < D) → D ∉ M) :
   Spec c 163 4 50 [.bytes #[97] t1, .bytes #[97] t2, .int 9 t3, .bytes #[43, 48, 48, 48, 48] t4] news [] (fun r n => (∀ p ∈ news, p ∈ n) ∧ ∃ p dp, r = .ref p ∧ PersonIn n M p dp ∧ ∀ q ∈ news, q.1 < p) := by
  refine' enterI (binds := fun x => [(Str.ofString "self", .ref x), (Str.ofString "name", .bytes #[97] t1), (Str.ofString "email", .bytes #[97] t2), (Str.ofString "when", .int 9 t3), (Str.ofString "zone", .bytes #[43, 48, 48, 48, 48] t4)]) ?i1 ?i2 ?i3 ?k6 ?k7 ?k9 ?kB ?c2 ?c3 ?c4 ?c5 ?_ ?d2
  ((case i1 => k_is); (case i2 => k_is); (case i3 => k_is); (case k6 => k_is); (case k7 => k_is); (case k9 => intro x9 s9 X9; first | exact BindsTo.of_eq rfl | exact binds_K X9 rfl (by k_is) rfl rfl rfl); (case kB => intro x9; exact locs rfl); (case c2 => exact rfl); (case c3 => exact rfl); (case c4 => exact rfl); (case c5 => decide); (case d2 => decide); skip)
  intro dp un gd outer A₀ base g9 L' h₁ tk s x dx l1 l2 C hd9 hu9; obtain ⟨B, F, X, N, T, hk9⟩ := C; (try dsimp only); k_fold; (try (refine letA (P := fun A9 => wpAny _ A9 _ _ _ _) _ ?_; intro A9))
  have l3 : ∀ p ∈ news, p.1 ≠ dx := fun p hp => Nat.ne_of_lt (l1 p hp)
  have l4 : ∀ p ∈ news, p.1 < x := fun p hp => Nat.lt_trans (l1 p hp) l2
  (try k_lt2 l2)
  k_steps
  rename Fr _ _ _ _ => F1
  rename News _ _ _ _ => N1
  exact ⟨_, _, rfl, F1, N1, fun p hp => .tail _ (.tail _ hp), ⟨fun p hp => .tail _ (.tail _ hp), x, dx, rfl, ⟨⟨.head _, hM x l4⟩, _, _, _, _, _, _, _, _, _, _, _, _, _, ⟨.tail _ (.head _), hM dx l1⟩⟩, l4⟩, rfl, rfl, rfl⟩
theorem entry_new (c : Cx) (news : Led) (t1 t2 t3 : Tok) :
   Spec c 205 4 50 [.int 33188 t1, .bytes #[102] t2, .bytes (idA 1) t3] news [] (fun r n => (∀ p ∈ news, p ∈ n) ∧ ∃ en de, r = .ref en ∧ EntryIn n en de) := by
  refine' enterI (binds := fun x => [(Str.ofString "self", .ref x), (Str.ofString "mode", .int 33188 t1), (Str.ofString "name", .bytes #[102] t2), (Str.ofString "oid", .bytes (idA 1) t3)]) ?i1 ?i2 ?i3 ?k6 ?k7 ?k9 ?kB ?c2 ?c3 ?c4 ?c5 ?_ ?d2
  ((case i1 => k_is); (case i2 => k_is); (case i3 => k_is); (case k6 => k_is); (case k7 => k_is); (case k9 => intro x9 s9 X9; first | exact BindsTo.of_eq rfl | exact binds_K X9 rfl (by k_is) rfl rfl rfl); (case kB => intro x9; exact locs rfl); (case c2 => exact rfl); (case c3 => exact rfl); (case c4 => exact rfl); (case c5 => decide); (case d2 => decide); skip)
  intro dp un gd outer A₀ base g9 L' h₁ tk s x dx l1 l2 C hd9 hu9; obtain ⟨B, F, X, N, T, hk9⟩ := C; (try dsimp only); k_fold; (try (refine letA (P := fun A9 => wpAny _ A9 _ _ _ _) _ ?_; intro A9))
  have l3 : ∀ p ∈ news, p.1 ≠ dx := fun p hp => Nat.ne_of_lt (l1 p hp)
  have l4 : ∀ p ∈ news, p.1 < x := fun p hp => Nat.lt_trans (l1 p hp) l2
  (try k_lt2 l2)
  k_steps
  rename Fr _ _ _ _ => F1
  rename News _ _ _ _ => N1
  exact ⟨_, _, rfl, F1, N1, fun p hp => .tail _ (.tail _ hp), ⟨fun p hp => .tail _ (.tail _ hp), x, dx, rfl, .head _, _, _, _, _, _, _, _, _, _, _, .tail _ (.head _)⟩, rfl, rfl, rfl⟩
theorem tree_new (c : Cx) (news : Led) (le en de : Addr) (k : Nat) (hl : (le, listOf #[.ref en] k) ∈ news) (hE : EntryIn news en de) :
   Spec c 254 4 50 [.ref le] news [] (fun r n => (∀ p ∈ news, p ∈ n) ∧ ∃ tr dt, r = .ref tr ∧ TreeIn n tr dt le en de) := by
  refine' enterI (binds := fun x => [(Str.ofString "self", .ref x), (Str.ofString "entries", .ref le)]) ?i1 ?i2 ?i3 ?k6 ?k7 ?k9 ?kB ?c2 ?c3 ?c4 ?c5 ?_ ?d2
  ((case i1 => k_is); (case i2 => k_is); (case i3 => k_is); (case k6 => k_is); (case k7 => k_is); (case k9 => intro x9 s9 X9; first | exact BindsTo.of_eq rfl | exact binds_K X9 rfl (by k_is) rfl rfl rfl); (case kB => intro x9; exact locs rfl); (case c2 => exact rfl); (case c3 => exact rfl); (case c4 => exact rfl); (case c5 => decide); (case d2 => decide); skip)
  intro dp un gd outer A₀ base g9 L' h₁ tk s x dx l1 l2 C hd9 hu9; obtain ⟨B, F, X, N, T, hk9⟩ := C; (try dsimp only); k_fold; (try (refine letA (P := fun A9 => wpAny _ A9 _ _ _ _) _ ?_; intro A9))
  have l3 : ∀ p ∈ news, p.1 ≠ dx := fun p hp => Nat.ne_of_lt (l1 p hp)
  have l4 : ∀ p ∈ news, p.1 < x := fun p hp => Nat.lt_trans (l1 p hp) l2
  (try k_lt2 l2)
  k_steps
  rename Fr _ _ _ _ => F1
  rename News _ _ _ _ => N1
  exact ⟨_, _, rfl, F1, N1, fun p hp => .tail _ (.tail _ hp), ⟨fun p hp => .tail _ (.tail _ hp), x, dx, rfl, .head _, ⟨_, _, _, .tail _ (.head _)⟩, ⟨_, .tail _ (.tail _ hl)⟩, hE.to fun p hp => .tail _ (.tail _ hp)⟩, rfl, rfl, rfl⟩
theorem commit_new (c : Cx) (news : Led) (M : List Addr) (g : Nat) (pl xl p dp : Addr) (k1 k2 : Nat) (msg : Array UInt8) (t1 t2 : Tok) (hM : ∀ D, (∀ p ∈ news, p.1 < D) → D ∉ M) (hp : (pl, listOf #[] k1) ∈ news) (hx : (xl, listOf #[] k2) ∈ news) (hP : PersonIn news M p dp) :
   Spec c 310 4 50 [.bytes (idA g) t1, .ref pl, .ref p, .ref p, .ref xl, .bytes msg t2] news [] (fun r n => (∀ p ∈ news, p ∈ n) ∧ ∃ cm dc, r = .ref cm ∧ CommitIn n M cm dc pl xl p dp g msg ∧ ∀ p ∈ news, p.1 < cm ∧ p.1 < dc) := by
  refine' enterI (binds := fun x => [(Str.ofString "self", .ref x), (Str.ofString "tree", .bytes (idA g) t1), (Str.ofString "parents", .ref pl), (Str.ofString "author", .ref p), (Str.ofString "committer", .ref p), (Str.ofString "extra", .ref xl), (Str.ofString "message", .bytes msg t2)]) ?i1 ?i2 ?i3 ?k6 ?k7 ?k9 ?kB ?c2 ?c3 ?c4 ?c5 ?_ ?d2
  ((case i1 => k_is); (case i2 => k_is); (case i3 => k_is); (case k6 => k_is); (case k7 => k_is); (case k9 => intro x9 s9 X9; first | exact BindsTo.of_eq rfl | exact binds_K X9 rfl (by k_is) rfl rfl rfl); (case kB => intro x9; exact locs rfl); (case c2 => exact rfl); (case c3 => exact rfl); (case c4 => exact rfl); (case c5 => decide); (case d2 => decide); skip)
  intro dp un gd outer A₀ base g9 L' h₁ tk s x dx l1 l2 C hd9 hu9; obtain ⟨B, F, X, N, T, hk9⟩ := C; (try dsimp only); k_fold; (try (refine letA (P := fun A9 => wpAny _ A9 _ _ _ _) _ ?_; intro A9))
  have l3 : ∀ p ∈ news, p.1 ≠ dx := fun p hp => Nat.ne_of_lt (l1 p hp)
  have l4 : ∀ p ∈ news, p.1 < x := fun p hp => Nat.lt_trans (l1 p hp) l2
  (try k_lt2 l2)
  k_steps
  rename Fr _ _ _ _ => F1
  rename News _ _ _ _ => N1
  exact ⟨_, _, rfl, F1, N1, fun p hp => .tail _ (.tail _ hp), ⟨fun p hp => .tail _ (.tail _ hp), x, dx, rfl, ⟨⟨.head _, hM x l4⟩, ⟨_, _, _, _, _, _, _, _, _, _, _, _, _, _, _, ⟨.tail _ (.head _), hM dx l1⟩⟩, ⟨_, .tail _ (.tail _ hp)⟩, ⟨_, .tail _ (.tail _ hx)⟩, (hP.to (S := []) (by simp) fun q hq _ => .tail _ (.tail _ hq))⟩, fun q hq => ⟨l4 q hq, l1 q hq⟩⟩, rfl, rfl, rfl⟩
theorem tag_new (c : Cx) (news : Led) (M : List Addr) (g k : Nat) (p dp : Addr) (msg : Array UInt8) (t1 t2 t3 t4 : Tok) (hM : ∀ D, (∀ p ∈ news, p.1 < D) → D ∉ M) (hP : PersonIn news M p dp) :
   Spec c 346 4 50 [.bytes (idA g) t1, .bytes (byK k) t2, .bytes #[116] t3, .ref p, .bytes msg t4] news [] (fun r n => (∀ p ∈ news, p ∈ n) ∧ ∃ tg dc, r = .ref tg ∧ TagIn n M tg dc p dp g k msg ∧ ∀ p ∈ news, p.1 < tg ∧ p.1 < dc) := by
  refine' enterI (binds := fun x => [(Str.ofString "self", .ref x), (Str.ofString "target", .bytes (idA g) t1), (Str.ofString "kind", .bytes (byK k) t2), (Str.ofString "name", .bytes #[116] t3), (Str.ofString "tagger", .ref p), (Str.ofString "message", .bytes msg t4), (Str.ofString "signature", .bytes #[] 631)]) ?i1 ?i2 ?i3 ?k6 ?k7 ?k9 ?kB ?c2 ?c3 ?c4 ?c5 ?_ ?d2
  ((case i1 => k_is); (case i2 => k_is); (case i3 => k_is); (case k6 => k_is); (case k7 => k_is); (case k9 => intro x9 s9 X9; first | exact BindsTo.of_eq rfl | exact binds_K X9 rfl (by k_is) rfl rfl rfl); (case kB => intro x9; exact locs rfl); (case c2 => exact rfl); (case c3 => exact rfl); (case c4 => exact rfl); (case c5 => decide); (case d2 => decide); skip)
  intro dp un gd outer A₀ base g9 L' h₁ tk s x dx l1 l2 C hd9 hu9; obtain ⟨B, F, X, N, T, hk9⟩ := C; (try dsimp only); k_fold; (try (refine letA (P := fun A9 => wpAny _ A9 _ _ _ _) _ ?_; intro A9))
  have l3 : ∀ p ∈ news, p.1 ≠ dx := fun p hp => Nat.ne_of_lt (l1 p hp)
  have l4 : ∀ p ∈ news, p.1 < x := fun p hp => Nat.lt_trans (l1 p hp) l2
  (try k_lt2 l2)
  k_steps
  rename Fr _ _ _ _ => F1
  rename News _ _ _ _ => N1
  exact ⟨_, _, rfl, F1, N1, fun p hp => .tail _ (.tail _ hp), ⟨fun p hp => .tail _ (.tail _ hp), x, dx, rfl, ⟨⟨.head _, hM x l4⟩, ⟨_, _, _, _, _, _, _, _, _, _, _, _, _, _, _, _, _, _, ⟨.tail _ (.head _), hM dx l1⟩⟩, (hP.to (S := []) (by simp) fun q hq _ => .tail _ (.tail _ hq))⟩, fun q hq => ⟨l4 q hq, l1 q hq⟩⟩, rfl, rfl, rfl⟩
end J_I2
example {M : Model} {A : Around} {Q : Unit → Shared → Prop} {E : Value → Shared → Prop} {s : Shared} : wpAny M A (pure ()) Q E s ∨ True := by w_top off; first | (left; walk1; done) | (right; trivial)
section J_M0
/-- what is built, so far -/
structure Made (w : World) (news : Led) (a : Ads) (cnt : Nat) (k : Cnt) (rs : List Rec) : Prop where
  fr : Frame9 news a
  deck : DeckIn w news a.d a.l
  wd : Wd w news a k.gone
  hash : Hashed w news a.kn cnt k
  kept : KeptIn w news a.muts a.kp rs
  known : KnownIn w news a.muts a.kw rs
  ok : RecsOk rs
  le : ∀ r ∈ rs, r.n ≤ cnt
theorem Frame9.ne {news : Led} {a : Ads} (h : Frame9 news a) : a.d ≠ a.l ∧ a.d ≠ a.kn ∧ a.d ≠ a.kp ∧ a.d ≠ a.wd ∧ a.d ≠ a.kw ∧ a.l ≠ a.kn ∧ a.l ≠ a.kp ∧ a.l ≠ a.wd ∧ a.l ≠ a.kw ∧ a.kn ≠ a.kp ∧ a.kn ≠ a.wd ∧ a.kn ≠ a.kw ∧ a.kp ≠ a.wd ∧ a.kp ≠ a.kw ∧ a.wd ≠ a.kw := by
  have := h.nodup
  simp [Ads.muts] at this
  refine hushL ?_
  intro hG
  obtain ⟨⟨a1, a2, a3, a4, a5⟩, ⟨b1, b2, b3, b4⟩, ⟨c1, c2, c3⟩, ⟨d1, d2⟩, e1⟩ := this
  k_unfold
  clear hG
  exact ⟨a1, a2, a3, a4, a5, b1, b2, b3, b4, c1, c2, c3, d1, d2, e1⟩
theorem Made.to {w : World} {news n' : Led} {a : Ads} {cnt : Nat} {k : Cnt} {rs : List Rec} (h : Made w news a cnt k rs) (hs : ∀ p ∈ news, p ∈ n') : Made w n' a cnt k rs :=
  ⟨h.fr.to (S := []) (by simp) (fun p hp _ => hs p hp), h.deck.to (S := []) (by simp) (by simp) (fun p hp _ => hs p hp), h.wd.to (S := []) (by simp) (fun p hp _ => hs p hp), h.hash.to (S := []) (by simp) (fun p hp _ => hs p hp),
   h.kept.to (S := []) (by simp) (by simp) (fun p hp _ => hs p hp), h.known.to (S := []) (by simp) (by simp) (fun p hp _ => hs p hp), h.ok, h.le⟩
theorem Made.drawn {w : World} {news n' : Led} {a : Ads} {cnt : Nat} {k : Cnt} {rs : List Rec} (h : Made w news a cnt k rs) (hs : ∀ p ∈ news, p.1 ∉ [a.d, a.l] → p ∈ n') (hD : DeckIn w n' a.d a.l) : Made w n' a cnt k rs := by
  refine hushL ?_
  intro hG
  obtain ⟨x1, x2, x3, x4, x5, x6, x7, x8, x9, _⟩ := h.fr.ne
  k_unfold
  clear hG
  have hS : ∀ x ∈ [a.d, a.l], x ∈ a.muts := by simp [Ads.muts]
  exact ⟨h.fr.to hS hs, hD, h.wd.to (S := [a.d, a.l]) (by simp; exact ⟨x4.symm, x8.symm⟩) hs, h.hash.to (S := [a.d, a.l]) (by simp; exact ⟨x2.symm, x6.symm⟩) hs,
    h.kept.to (S := [a.d, a.l]) (by simp; exact ⟨x3.symm, x7.symm⟩) hS hs, h.known.to (S := [a.d, a.l]) (by simp; exact ⟨x5.symm, x9.symm⟩) hS hs, h.ok, h.le⟩
theorem Made.gap {w : World} {news n' : Led} {a : Ads} {cnt : Nat} {k : Cnt} {rs : List Rec} {e : Nat} (h : Made w news a cnt k rs) (hs : ∀ p ∈ news, p.1 ∉ [a.d, a.l, a.wd, a.kn] → p ∈ n') (hD : DeckIn w n' a.d a.l) (hW : Wd w n' a (k.gone + e)) (hH : Hashed w n' a.kn (cnt + e) { k with gone := k.gone + e }) :
    Made w n' a (cnt + e) { k with gone := k.gone + e } rs := by
  refine hushL ?_
  intro hG
  obtain ⟨x1, x2, x3, x4, x5, x6, x7, x8, x9, y1, y2, y3, y4, y5, y6⟩ := h.fr.ne
  k_unfold
  clear hG
  have hS : ∀ x ∈ [a.d, a.l, a.wd, a.kn], x ∈ a.muts := by simp [Ads.muts]
  exact ⟨h.fr.to hS hs, hD, hW, hH, h.kept.to (S := [a.d, a.l, a.wd, a.kn]) (by simp; exact ⟨x3.symm, x7.symm, y4, y1.symm⟩) hS hs,
    h.known.to (S := [a.d, a.l, a.wd, a.kn]) (by simp; exact ⟨x5.symm, x9.symm, y6.symm, y3.symm⟩) hS hs, h.ok, fun r hr => Nat.le_trans (h.le r hr) (Nat.le_add_right _ _)⟩
theorem Made.fresh {w : World} {news : Led} {a : Ads} {cnt : Nat} {k : Cnt} {rs : List Rec} (h : Made w news a cnt k rs) (hc : cnt ≤ 200) (f : Rec → Value) : idL (cnt + 1) ∉ (rs.map fun r => (idL r.n, f r)).map (·.1) := by
  intro hm
  rw [List.map_map] at hm
  refine hushL ?_
  intro hG
  obtain ⟨r, hr, e⟩ := List.mem_map.mp hm
  k_unfold
  clear hG
  have h1 := h.ok.lt r hr
  have h2 := h.le r hr
  have := idL_inj (by omega) (by omega) e
  omega
noncomputable def goalV (goal : Option Nat) (gv : Value) : Prop := match goal with
  | none => gv = .none
  | some g => ∃ t, gv = .bytes (idA g) t
theorem RecsOk.snoc {rs : List Rec} (h : RecsOk rs) {r : Rec} (hn : ∀ x ∈ rs, x.n < r.n) (hl : r.n < 200) (h4 : r.k < 4) (hz : rs.length < 20) (hg : ∀ g, r.goal = some g → ∃ r' ∈ rs, r'.n = g ∧ (r.k = 2 → r'.k = 1)) : RecsOk (rs ++ [r]) := by
  refine ⟨?_, ?_, ?_, ?_, ?_⟩
  · rw [List.pairwise_append]
    exact ⟨h.asc, List.pairwise_singleton _ _, fun x hx y hy => by rw [List.mem_singleton.mp hy]; exact hn x hx⟩
  · intro x hx
    rcases List.mem_append.mp hx with hx | hx
    · exact h.lt x hx
    · rw [List.mem_singleton.mp hx]; exact hl
  · intro x hx
    rcases List.mem_append.mp hx with hx | hx
    · exact h.k4 x hx
    · rw [List.mem_singleton.mp hx]; exact h4
  · simp only [List.length_append, List.length_cons, List.length_nil]; omega
  · intro x hx g e
    rcases List.mem_append.mp hx with hx | hx
    · refine hushL ?_
      intro hG
      obtain ⟨r', a, b⟩ := h.goal x hx g e
      k_unfold
      clear hG
      exact ⟨r', List.mem_append_left _ a, b⟩
    · obtain rfl := List.mem_singleton.mp hx
      refine hushL ?_
      intro hG
      obtain ⟨r', a, b, c⟩ := hg g e
      k_unfold
      clear hG
      exact ⟨r', List.mem_append_left _ a, b, b ▸ hn r' a, c⟩
theorem Made.put {w : World} {news0 news n1 n2 : Led} {a : Ads} {cnt : Nat} {k k' : Cnt} {rs : List Rec} {kd : Nat} {goal : Option Nat} {κ : Addr} {gv rv : Value} {tb : Tok} {o6 : Obj} {th : Value → Prop} (h : Made w news a cnt k rs) (hkd : kd < 4)
    (hW : Wrote w news0 n1 a cnt k' (rs.map fun r => (idL r.n, .ref r.τ)) (byK kd) th rv) (hs : ∀ p ∈ news, p.1 ∉ [a.kn, a.kp] → p ∈ n1) (hκ : Off n1 a.muts κ (tup2 (.bytes (byK kd) tb) gv)) (hgv : goalV goal gv) (hth : ∀ v, th v → Thing n1 a.muts kd goal v)
    (hg : k'.gone = k.gone) (hc : cnt ≤ 198) (hz : rs.length < 20) (hgo : ∀ g, goal = some g → ∃ r' ∈ rs, r'.n = g ∧ (kd = 2 → r'.k = 1))
    (hn2 : ∀ p ∈ n1, p.1 ∉ [a.kw] → p ∈ n2) (ho : (a.kw, o6) ∈ n2) (hd : o6.IsDictOf (KB w) ((rs.map fun r => (idL r.n, .ref r.κ)) ++ [(idL (cnt + 1), .ref κ)])) :
    ∃ τ, Made w n2 a (cnt + 1) k' (rs ++ [⟨cnt + 1, kd, goal, τ, κ⟩]) := by
  refine hushL ?_
  intro hG
  obtain ⟨x1, x2, x3, x4, x5, x6, x7, x8, x9, y1, y2, y3, y4, y5, y6⟩ := h.fr.ne
  k_unfold
  clear hG
  have hS1 : ∀ x ∈ [a.kn, a.kp], x ∈ a.muts := by simp [Ads.muts]
  have hS2 : ∀ x ∈ [a.kw], x ∈ a.muts := by simp [Ads.muts]
  refine hushL ?_
  intro hGG
  obtain ⟨t, τ, tk, thv, rfl, hH, hK, hO, hthv, _⟩ := hW
  k_unfold
  clear hGG
  have n3 : a.kw ∉ [a.kn, a.kp] := by simp; exact ⟨y3.symm, y5.symm⟩
  refine ⟨τ, (h.fr.to hS1 hs).to hS2 hn2, ?_, ?_, hH.to (S := [a.kw]) (by simpa using y3) hn2, ⟨?_, ?_⟩, ⟨⟨o6, ho, ?_⟩, ?_⟩, h.ok.snoc (fun x hx => Nat.lt_succ_of_le (h.le x hx)) (by show cnt + 1 < 200; omega) hkd hz hgo, ?_⟩
  · exact (h.deck.to (S := [a.kn, a.kp]) (by simp; exact ⟨x2, x3⟩) (by simp; exact ⟨x6, x7⟩) hs).to (S := [a.kw]) (by simpa using x5) (by simpa using x9) hn2
  · rw [hg]; exact (h.wd.to (S := [a.kn, a.kp]) (by simp; exact ⟨y2.symm, y4.symm⟩) hs).to (S := [a.kw]) (by simpa using y6) hn2
  · rw [List.map_append]; exact hK.to (S := [a.kw]) (by simpa using y5) hn2
  · intro r hr
    rcases List.mem_append.mp hr with hr | hr
    · exact ((h.kept.2 r hr).to hS1 hs).to hS2 hn2
    · obtain rfl := List.mem_singleton.mp hr
      exact ⟨_, _, hO.to hS2 hn2, (hth _ hthv).to hS2 hn2⟩
  · rw [List.map_append]; exact hd
  · intro r hr
    rcases List.mem_append.mp hr with hr | hr
    · exact ((h.known.2 r hr).to hS1 hs).to hS2 hn2
    · obtain rfl := List.mem_singleton.mp hr
      refine ⟨_, _, hκ.to hS2 hn2, ?_⟩
      cases goal <;> exact hgv
  · intro r hr
    rcases List.mem_append.mp hr with hr | hr
    · exact Nat.le_succ_of_le (h.le r hr)
    · obtain rfl := List.mem_singleton.mp hr
      exact Nat.le_refl _
theorem Made.off {w : World} {news : Led} {a : Ads} {cnt : Nat} {k : Cnt} {rs : List Rec} (h : Made w news a cnt k rs) : ∀ D, (∀ p ∈ news, p.1 < D) → D ∉ a.muts := fun _ hD => h.fr.fresh hD
/-- «w['known'][oid] = (kind, goal)» -/
theorem put_step {c : Cx} {A : Around} {E : Value → Shared → Prop} {s : Shared} {h₀ : Heap} {L : Addr} {m : Str → Option Value} {news0 news n1 : Led} {a : Ads} {cnt : Nat} {k k' : Cnt} {rs : List Rec} {kd : Nat} {goal : Option Nat} {κ : Addr} {gv rv : Value} {tb : Tok} {th : Value → Prop} {Q : Unit → Shared → Prop} (h : Made c.w news a cnt k rs) (hkd : kd < 4)
    (F : Fr h₀ L s.heap m) (N : News h₀ L s.heap n1)
    (hW : Wrote c.w news0 n1 a cnt k' (rs.map fun r => (idL r.n, .ref r.τ)) (byK kd) th rv) (hs : ∀ p ∈ news, p.1 ∉ [a.kn, a.kp] → p ∈ n1) (hκ : Off n1 a.muts κ (tup2 (.bytes (byK kd) tb) gv)) (hgv : goalV goal gv) (hth : ∀ v, th v → Thing n1 a.muts kd goal v)
    (hg : k'.gone = k.gone) (hc : cnt ≤ 198) (hz : rs.length < 20) (hgo : ∀ g, goal = some g → ∃ r' ∈ rs, r'.n = g ∧ (kd = 2 → r'.k = 1))
    (hQ : ∀ h' n2 τ, Fr h₀ L h' m → News h₀ L h' n2 → (∀ p ∈ n1, p.1 ∉ [a.kw] → p ∈ n2) → Made c.w n2 a (cnt + 1) k' (rs ++ [⟨cnt + 1, kd, goal, τ, κ⟩]) → Q () { s with heap := h', toks := s.toks + 1 }) :
    wpAny (model PySem.Challenge.rw_pb0121_01.row.prog c.w) A (setItem (.ref a.kw) rv (.ref κ)) Q E s := by
  refine hushL ?_
  intro hG
  obtain ⟨x1, x2, x3, x4, x5, x6, x7, x8, x9, y1, y2, y3, y4, y5, y6⟩ := h.fr.ne
  k_unfold
  clear hG
  refine hushL ?_
  intro hG
  obtain ⟨t, τ, tk, thv, hrv, hH, hK, hO, hthv, _⟩ := id hW
  k_unfold
  clear hG
  subst hrv
  obtain ⟨o, hm, hd⟩ := (h.known.to (S := [a.kn, a.kp]) (by simp; exact ⟨y3.symm, y5.symm⟩) (by simp [Ads.muts]) hs).1
  refine set_led (knd := bytesKind _ _) (k := idL (cnt + 1)) F N hm hd (keyB _ _) (by rw [List.length_map]; omega) (fun h' o6 F6 N6 hd6 => ?_)
  rw [stored_new (h.fresh (by omega) _)] at hd6
  have hn2 : ∀ p ∈ n1, p.1 ∉ [a.kw] → p ∈ upd n1 a.kw o6 := fun p hp hn => upd_off hp (by simpa using hn)
  obtain ⟨τ, hM⟩ := h.put hkd hW hs hκ hgv hth hg hc hz hgo hn2 (upd_new hm) hd6
  exact hQ _ _ τ F6 N6 hn2 hM
/-- what stands when the building begins: all that is turned lies in the ledger -/
structure Made8 (w : World) (news : Led) (a : Ads) : Prop where
  nodup : a.muts.Nodup
  lo : ∀ x ∈ [a.kn, a.kp, a.kw], (x == sysModules) = false
  hs : HasherIn news a.muts a.hs a.dh a.kn
  st : StoreIn news a.muts a.st a.ds a.hs a.kp
  deck : DeckIn w news a.d a.l
  wd : Wd w news a 0
  kn : KnIn w news a.kn []
  kp : KnIn w news a.kp []
  kw : KnIn w news a.kw []
theorem Made8.all {w : World} {news : Led} {a : Ads} (h : Made8 w news a) : ∀ x ∈ a.muts, ∃ o, (x, o) ∈ news := by
  obtain ⟨od, md⟩ := h.deck.memd
  obtain ⟨ol, ml⟩ := h.deck.meml
  refine hushL ?_
  intro hG
  obtain ⟨ow, _, mw, _⟩ := h.wd
  k_unfold
  clear hG
  refine hushL ?_
  intro hG
  obtain ⟨on, mn, _⟩ := h.kn
  k_unfold
  clear hG
  refine hushL ?_
  intro hG
  obtain ⟨op, mp, _⟩ := h.kp
  k_unfold
  clear hG
  refine hushL ?_
  intro hG
  obtain ⟨ok, mk, _⟩ := h.kw
  k_unfold
  clear hG
  intro x hx
  simp only [Ads.muts, List.mem_cons, List.not_mem_nil, or_false] at hx
  rcases hx with rfl | rfl | rfl | rfl | rfl | rfl
  · exact ⟨_, md⟩
  · exact ⟨_, ml⟩
  · exact ⟨_, mn⟩
  · exact ⟨_, mp⟩
  · exact ⟨_, mw⟩
  · exact ⟨_, mk⟩
theorem Made8.off {w : World} {news : Led} {a : Ads} (h : Made8 w news a) : ∀ D, (∀ p ∈ news, p.1 < D) → D ∉ a.muts := fun D hD hm => by
  obtain ⟨o, ho⟩ := h.all D hm
  exact absurd (hD _ ho) (Nat.lt_irrefl _)
theorem Made8.made {w : World} {news n' : Led} {a : Ads} (h : Made8 w news a) {p : Addr} {o : Obj} (hs : ∀ q ∈ news, q ∈ n') (hp : Off n' a.muts p o) (hlt : ∀ q ∈ news, q.1 < p) : Made w n' a 0 ⟨0, 0, 0, 0, 0⟩ [] := by
  have hk : ∀ q ∈ news, q.1 ∉ ([] : List Addr) → q ∈ n' := fun q hq _ => hs q hq
  refine ⟨⟨h.nodup, h.lo, h.hs.to (S := []) (by simp) hk, h.st.to (S := []) (by simp) hk, p, o, hp, fun x hx => ?_⟩, h.deck.to (by simp) (by simp) hk, h.wd.to (by simp) hk, ⟨[], h.kn.to (by simp) hk, rfl, by simp⟩, ⟨h.kp.to (by simp) hk, by simp⟩, ⟨h.kw.to (by simp) hk, by simp⟩, ⟨List.Pairwise.nil, by simp, by simp, by simp, by simp⟩, by simp⟩
  obtain ⟨ox, hx⟩ := h.all x hx
  exact hlt _ hx
end J_M0
example {M : Model} {A : Around} {Q : Unit → Shared → Prop} {E : Value → Shared → Prop} {s : Shared} : wpAny M A (pure ()) Q E s ∨ True := by w_top off; first | (left; walk1; done) | (right; trivial)
section J_M2
theorem strip {P : Addr → Prop} {g h : Heap} {L : Addr} {n8 own : Led} (N8 : News g L h n8) (ho : ∀ p ∈ own, p ∈ n8) : ∃ Y : Led, (∀ p ∈ n8, P p.1 → p ∈ Y) ∧ (∀ p ∈ Y, P p.1) ∧ News g L h (Y ++ own) := by
  classical
  refine ⟨n8.filter (fun p => decide (P p.1)), fun p hp hP => List.mem_filter.mpr ⟨hp, decide_eq_true hP⟩, fun p hp => of_decide_eq_true (List.mem_filter.mp hp).2, fun p hp => ?_⟩
  rcases List.mem_append.mp hp with hp | hp
  · exact N8 p (List.mem_filter.mp hp).1
  · exact N8 p (ho p hp)
/-- what a loop keeps beside the ledger -/
structure Side (P : Addr → Prop) (Y own : Led) (a : Ads) : Prop where
  apart : ∀ p ∈ own, p.1 ∉ a.muts
  fresh : ∀ x, (∀ p ∈ own, p.1 < x) → P x
  all : ∀ p ∈ Y, P p.1
theorem Made.P {w : World} {news : Led} {a : Ads} {cnt : Nat} {k : Cnt} {rs : List Rec} {P : Addr → Prop} (h : Made w news a cnt k rs) (hP : ∀ p ∈ news, P p.1) : ∀ x ∈ a.muts, P x := by
  obtain ⟨od, md⟩ := h.deck.memd
  obtain ⟨ol, ml⟩ := h.deck.meml
  refine hushL ?_
  intro hG
  obtain ⟨ow, _, mw, _⟩ := h.wd
  k_unfold
  clear hG
  refine hushL ?_
  intro hG
  obtain ⟨_, ⟨on, mn, _⟩, _⟩ := h.hash
  k_unfold
  clear hG
  refine hushL ?_
  intro hG
  obtain ⟨⟨op, mp, _⟩, _⟩ := h.kept
  k_unfold
  clear hG
  refine hushL ?_
  intro hG
  obtain ⟨⟨ok, mk, _⟩, _⟩ := h.known
  k_unfold
  clear hG
  intro x hx
  simp only [Ads.muts, List.mem_cons, List.not_mem_nil, or_false] at hx
  rcases hx with rfl | rfl | rfl | rfl | rfl | rfl
  · exact hP _ md
  · exact hP _ ml
  · exact hP _ mn
  · exact hP _ mp
  · exact hP _ mw
  · exact hP _ mk
theorem Wrote.off {P : Addr → Prop} {w : World} {news0 n Y : Led} {a : Ads} {cnt : Nat} {k : Cnt} {kvs : List (List UInt8 × Value)} {kb : Array UInt8} {th : Value → Prop} {r : Value} (h : Wrote w news0 n a cnt k kvs kb th r) (hP : ∀ x, (∀ p ∈ news0, p.1 < x) → P x) (hn : P a.kn) (hp : P a.kp) (hY : ∀ p ∈ n, P p.1 → p ∈ Y) : Wrote w news0 Y a cnt k kvs kb th r := by
  refine hushL ?_
  intro hGG
  obtain ⟨t, τ, tk, thv, rfl, ⟨kv1, ⟨o1, m1, d1⟩, hl⟩, ⟨o2, m2, d2⟩, ⟨m3, q3⟩, hthv, hlt⟩ := h
  k_unfold
  clear hGG
  exact ⟨t, τ, tk, thv, rfl, ⟨kv1, ⟨o1, hY _ m1 hn, d1⟩, hl⟩, ⟨o2, hY _ m2 hp, d2⟩, ⟨hY _ m3 (hP _ hlt), q3⟩, hthv, hlt⟩
section
variable {c : Cx} {dp un : Nat} {gd : Option (List Code)} {cn : Str} {cs : Scope} {ad : Addr} {ccd : Value} {cl : List (Str × Addr)} {outer : List Env} {A₀ : Around} {base h₀ : Heap} {L : Addr} {m : Str → Option Value} {s : Shared} {E : Value → Shared → Prop}
  {P : Addr → Prop} {Y own : Led} {a : Ads} {cnt : Nat} {k : Cnt} {rs : List Rec}
theorem gap_step {Q : Value → Shared → Prop} (hM : Made c.w Y a cnt k rs) (hS : Side P Y own a) (B : Below A₀ base outer h₀) (F : Fr h₀ L s.heap m) (X : (hd.heap_1 c.w.params).In h₀) (N : News h₀ L s.heap (Y ++ own)) (T : Top hd.view_1 LO c.mean c.mg c.mb h₀) (hk : cs.kind = .function) (hd : dp + 12 < recursionLimit) (hu : un + 200 < cLine)
    (hg : k.gone ≤ 110) (hc : cnt ≤ 150)
    (ret : ∀ Y' h' tk' e, e ≤ 16 → Made c.w Y' a (cnt + e) { k with gone := k.gone + e } rs → Side P Y' own a → (∀ p ∈ Y, p.1 ∉ a.muts → p ∈ Y') → Fr h₀ L h' m → News h₀ L h' (Y' ++ own) → Q .none { s with heap := h', toks := tk' }) :
    wpAny (model PySem.Challenge.rw_pb0121_01.row.prog c.w) (ktrTop dp un gd cn cs L ad ccd cl outer) (call (.ref 559) [.ref a.d, .ref a.wd]) Q E s := by
  have hM1 := hM.to (n' := Y ++ own) (fun p hp => List.mem_append_left _ hp)
  refine Spec.use (gap_spec c a cnt k _ hM1.fr hM1.deck hM1.wd hM1.hash hg hc) B F X N T hk hd hu ?_
  intro r n h' t' zy32 hs F' N' _
  refine hushL ?_
  intro hGG
  obtain ⟨rfl, hD, e, he, hW, hH⟩ := zy32
  k_unfold
  clear hGG
  have hPm := hM.P hS.all
  have hSm : ∀ x ∈ [a.d, a.l, a.wd, a.kn], x ∈ a.muts := by simp [Ads.muts]
  refine hushL ?_
  intro hG
  obtain ⟨Y', h1, h2, N2⟩ := strip (P := P) N' (own := own) (fun p hp => hs p (List.mem_append_right _ hp) (fun h => hS.apart p hp (hSm _ h)))
  k_unfold
  clear hG
  have h3 : ∀ p ∈ Y, p.1 ∉ [a.d, a.l, a.wd, a.kn] → p ∈ Y' := fun p hp hn => h1 p (hs p (List.mem_append_left _ hp) hn) (hS.all p hp)
  refine hushL ?_
  intro hG
  obtain ⟨od, xs, ns, ep, x, t, m1, hd1, m2, r1⟩ := hD
  k_unfold
  clear hG
  refine hushL ?_
  intro hG
  obtain ⟨ow, tw, m3, hw1⟩ := hW
  k_unfold
  clear hG
  refine hushL ?_
  intro hG
  obtain ⟨kv1, ⟨o1, m4, d1⟩, hl⟩ := hH
  k_unfold
  clear hG
  exact ret Y' h' t' e he (hM.gap h3 ⟨od, xs, ns, ep, x, t, h1 _ m1 (hPm _ (by simp [Ads.muts])), hd1, h1 _ m2 (hPm _ (by simp [Ads.muts])), r1⟩ ⟨ow, tw, h1 _ m3 (hPm _ (by simp [Ads.muts])), hw1⟩ ⟨kv1, ⟨o1, h1 _ m4 (hPm _ (by simp [Ads.muts])), d1⟩, hl⟩)
    ⟨hS.apart, hS.fresh, h2⟩ (fun p hp hn => h3 p hp (fun h => hn (hSm _ h))) F' N2
theorem draw_step {Q : Value → Shared → Prop} {many : Int} {tm : Tok} (hM : Made c.w Y a cnt k rs) (hS : Side P Y own a) (B : Below A₀ base outer h₀) (F : Fr h₀ L s.heap m) (X : (hd.heap_1 c.w.params).In h₀) (N : News h₀ L s.heap (Y ++ own)) (T : Top hd.view_1 LO c.mean c.mg c.mb h₀) (hk : cs.kind = .function) (hd : dp + 5 < recursionLimit) (hu : un + 100 < cLine)
    (hm : 0 < many ∧ many < 100)
    (ret : ∀ Y' h' tk' (i : Nat) t, (i : Int) < many → Made c.w Y' a cnt k rs → Side P Y' own a → (∀ p ∈ Y, p.1 ∉ a.muts → p ∈ Y') → Fr h₀ L h' m → News h₀ L h' (Y' ++ own) → Q (.int i t) { s with heap := h', toks := tk' }) :
    wpAny (model PySem.Challenge.rw_pb0121_01.row.prog c.w) (ktrTop dp un gd cn cs L ad ccd cl outer) (call (.ref 547) [.ref a.d, .int many tm]) Q E s := by
  have hM1 := hM.to (n' := Y ++ own) (fun p hp => List.mem_append_left _ hp)
  refine Spec.use (draw_spec c a.d a.l many tm _ hm hM1.deck) B F X N T hk hd hu ?_
  intro r n h' t' zy33 hs F' N' _
  refine hushL ?_
  intro hGG
  obtain ⟨⟨i, ti, rfl, hi0, hi⟩, hD⟩ := zy33
  k_unfold
  clear hGG
  have hPm := hM.P hS.all
  have hSm : ∀ x ∈ [a.d, a.l], x ∈ a.muts := by simp [Ads.muts]
  refine hushL ?_
  intro hG
  obtain ⟨Y', h1, h2, N2⟩ := strip (P := P) N' (own := own) (fun p hp => hs p (List.mem_append_right _ hp) (fun h => hS.apart p hp (hSm _ h)))
  k_unfold
  clear hG
  have h3 : ∀ p ∈ Y, p.1 ∉ [a.d, a.l] → p ∈ Y' := fun p hp hn => h1 p (hs p (List.mem_append_left _ hp) hn) (hS.all p hp)
  refine hushL ?_
  intro hG
  obtain ⟨od, xs, ns, ep, x, t, m1, hd1, m2, r1⟩ := hD
  k_unfold
  clear hG
  obtain ⟨j, rfl⟩ := Int.eq_ofNat_of_zero_le hi0
  exact ret Y' h' t' j ti hi (hM.drawn h3 ⟨od, xs, ns, ep, x, t, h1 _ m1 (hPm _ (by simp [Ads.muts])), hd1, h1 _ m2 (hPm _ (by simp [Ads.muts])), r1⟩)
    ⟨hS.apart, hS.fresh, h2⟩ (fun p hp hn => h3 p hp (fun h => hn (hSm _ h))) F' N2
/-- «w['known'][oid] = (kind, goal)», beside what a loop keeps -/
theorem put_side {news0 news : Led} {k' : Cnt} {kd : Nat} {goal : Option Nat} {κ : Addr} {gv rv : Value} {tb : Tok} {th : Value → Prop} {Q : Unit → Shared → Prop} {A : Around} (h : Made c.w news a cnt k rs) (hS : Side P Y own a) (hkd : kd < 4)
    (F : Fr h₀ L s.heap m) (N : News h₀ L s.heap (Y ++ own))
    (hW : Wrote c.w news0 Y a cnt k' (rs.map fun r => (idL r.n, .ref r.τ)) (byK kd) th rv) (hs : ∀ p ∈ news, p.1 ∉ [a.kn, a.kp] → p ∈ Y) (hκ : Off Y a.muts κ (tup2 (.bytes (byK kd) tb) gv)) (hgv : goalV goal gv) (hth : ∀ v, th v → Thing Y a.muts kd goal v)
    (hg : k'.gone = k.gone) (hc : cnt ≤ 198) (hz : rs.length < 20) (hgo : ∀ g, goal = some g → ∃ r' ∈ rs, r'.n = g ∧ (kd = 2 → r'.k = 1))
    (hQ : ∀ h' Y' τ, Fr h₀ L h' m → News h₀ L h' (Y' ++ own) → Side P Y' own a → (∀ p ∈ Y, p.1 ∉ a.muts → p ∈ Y') → Made c.w Y' a (cnt + 1) k' (rs ++ [⟨cnt + 1, kd, goal, τ, κ⟩]) → Q () { s with heap := h', toks := s.toks + 1 }) :
    wpAny (model PySem.Challenge.rw_pb0121_01.row.prog c.w) A (setItem (.ref a.kw) rv (.ref κ)) Q E s := by
  refine hushL ?_
  intro hG
  obtain ⟨x1, x2, x3, x4, x5, x6, x7, x8, x9, y1, y2, y3, y4, y5, y6⟩ := h.fr.ne
  k_unfold
  clear hG
  refine hushL ?_
  intro hG
  obtain ⟨t, τ, tk, thv, hrv, hH, hK, hO, hthv, _⟩ := id hW
  k_unfold
  clear hG
  subst hrv
  obtain ⟨o, hm, hd⟩ := (h.known.to (S := [a.kn, a.kp]) (by simp; exact ⟨y3.symm, y5.symm⟩) (by simp [Ads.muts]) hs).1
  refine set_led (knd := bytesKind _ _) (k := idL (cnt + 1)) F N (List.mem_append_left _ hm) hd (keyB _ _) (by rw [List.length_map]; omega) (fun h' o6 F6 N6 hd6 => ?_)
  rw [stored_new (h.fresh (by omega) _)] at hd6
  have hkw : a.kw ∈ a.muts := by simp [Ads.muts]
  rw [upd_app, upd_same (news := own) (fun p hp e => hS.apart p hp (e ▸ hkw))] at N6
  have hn2 : ∀ p ∈ Y, p.1 ∉ [a.kw] → p ∈ upd Y a.kw o6 := fun p hp hn => upd_off hp (by simpa using hn)
  obtain ⟨τ, hM⟩ := h.put hkd hW hs hκ hgv hth hg hc hz hgo hn2 (upd_new hm) hd6
  refine hQ _ _ τ F6 N6 ⟨hS.apart, hS.fresh, fun p hp => ?_⟩ (fun p hp hn => hn2 p hp (fun e => hn (by rw [List.mem_singleton.mp e]; exact hkw))) hM
  have : p.1 ∈ (upd Y a.kw o6).map (·.1) := List.mem_map_of_mem hp
  rw [upd_fst] at this
  refine hushL ?_
  intro hG
  obtain ⟨q, hq, e⟩ := List.mem_map.mp this
  k_unfold
  clear hG
  rw [← e]; exact hS.all q hq
theorem wrote_side {news0 n8 : Led} {k' : Cnt} {kvs : List (List UInt8 × Value)} {kb : Array UInt8} {th : Value → Prop} {r : Value} {h8 : Heap} (hM : Made c.w Y a cnt k rs) (hS : Side P Y own a) (h0 : ∀ p ∈ own, p ∈ news0) (hs : ∀ p ∈ Y ++ own, p.1 ∉ [a.kn, a.kp] → p ∈ n8) (N8 : News h₀ L h8 n8) (hW : Wrote c.w news0 n8 a cnt k' kvs kb th r) :
    ∃ Y8, Wrote c.w news0 Y8 a cnt k' kvs kb th r ∧ (∀ p ∈ Y, p.1 ∉ [a.kn, a.kp] → p ∈ Y8) ∧ Side P Y8 own a ∧ News h₀ L h8 (Y8 ++ own) ∧ ∀ p ∈ n8, P p.1 → p ∈ Y8 := by
  have hPm := hM.P hS.all
  have hSm : ∀ x ∈ [a.kn, a.kp], x ∈ a.muts := by simp [Ads.muts]
  refine hushL ?_
  intro hG
  obtain ⟨Y', h1, h2, N2⟩ := strip (P := P) N8 (own := own) (fun p hp => hs p (List.mem_append_right _ hp) (fun h => hS.apart p hp (hSm _ h)))
  k_unfold
  clear hG
  exact ⟨Y', hW.off (fun x hx => hS.fresh x fun p hp => hx p (h0 p hp)) (hPm _ (by simp [Ads.muts])) (hPm _ (by simp [Ads.muts])) h1, fun p hp hn => h1 p (hs p (List.mem_append_left _ hp) hn) (hS.all p hp), ⟨hS.apart, hS.fresh, h2⟩, N2, h1⟩
theorem Side.cons {κ : Addr} {o : Obj} (hS : Side P Y own a) (hκ : ∀ p ∈ own, p.1 < κ) : Side P ((κ, o) :: Y) own a :=
  ⟨hS.apart, hS.fresh, fun p hp => by
    rcases List.mem_cons.mp hp with rfl | hp
    · exact hS.fresh _ hκ
    · exact hS.all p hp⟩
theorem Side.loop {I : Addr} {oI : Obj} {src : List Addr} (hM : Made c.w Y a cnt k rs) (hI : ∀ p ∈ Y, p.1 ≠ I) (ho : ∀ p ∈ own, p.1 = I ∨ p.1 ∈ src) (hm : (I, oI) ∈ own) (hsrc : ∀ x ∈ src, x ∉ a.muts) : Side (fun x => x ≠ I) Y own a :=
  ⟨fun p hp hx => (ho p hp).elim (fun e => hM.P (P := fun x => x ≠ I) hI _ hx e) (fun e => hsrc _ e hx), fun x hx e => absurd (hx _ hm) (by rw [e]; exact Nat.lt_irrefl _), hI⟩
theorem sort_step {Q : Value → Shared → Prop} {A : Around} (hM : Made c.w Y a cnt k rs) (h2 : 2 ≤ rs.length) (F : Fr h₀ L s.heap m) (N : News h₀ L s.heap (Y ++ own)) (hh : A.handled = none)
    (ret : ∀ D h' tk' ts cc, Fr h₀ L h' m → News h₀ L h' ((D, idsL ts cc) :: (Y ++ own)) → (∀ q ∈ Y ++ own, q.1 < D) → ts.map (fun p => p.1.toList) = rs.map (fun r => idL r.n) → Q (.ref D) { s with heap := h', toks := tk' }) :
    wpAny (model PySem.Challenge.rw_pb0121_01.row.prog c.w) A (call (.builtin "sorted") [.ref a.kw]) Q E s := by
  refine hushL ?_
  intro hG
  obtain ⟨o, m3, hd⟩ := hM.known.1
  k_unfold
  clear hG
  have lo := hM.fr.lo a.kw (by simp)
  refine sorted_dict F N (List.mem_append_left _ m3) hd lo hh (by rw [List.length_map]; exact h2) (by rw [List.length_map]; have := hM.ok.len; omega) (hM.ok.ascending _) (fun D h' tk ts k F' N' hlt hts => ?_)
  exact ret D h' tk ts k F' N' hlt (by rw [hts, List.map_map]; rfl)
theorem ids_at {ts : List (Array UInt8 × Tok)} {rs : List Rec} {i : Nat} (hts : ts.map (fun p => p.1.toList) = rs.map fun r => idL r.n) (hi : i < rs.length) : ∃ t, (ts.map fun p => Value.bytes p.1 p.2).toArray[i]? = some (.bytes (idA rs[i].n) t) := by
  have hl : ts.length = rs.length := by simpa using congrArg List.length hts
  have e := congrArg (·[i]?) hts
  simp only [List.getElem?_map, List.getElem?_eq_getElem hi, List.getElem?_eq_getElem (hl ▸ hi : i < ts.length), Option.map_some, Option.some.injEq] at e
  refine ⟨(ts[i]'(hl ▸ hi)).2, ?_⟩
  rw [List.getElem?_toArray, List.getElem?_map, List.getElem?_eq_getElem (hl ▸ hi : i < ts.length), Option.map_some]
  congr 2
  exact Array.toList_inj.mp e
end
end J_M2
example {M : Model} {A : Around} {Q : Unit → Shared → Prop} {E : Value → Shared → Prop} {s : Shared} : wpAny M A (pure ()) Q E s ∨ True := by w_top off; first | (left; walk1; done) | (right; trivial)
section J_I3
theorem hasher_new (c : Cx) (news : Led) (t : Tok) :
   Spec c 120 4 50 [.int 4 t] news [] (fun r n => (∀ p ∈ news, p ∈ n) ∧ ∃ hs dh kn o, r = .ref hs ∧ (hs, instObj 120 dh) ∈ n ∧ (∃ h1 t1 t3 h2 t2 e, (dh, dictOf [⟨h1, .str (Str.ofString "size") t1, .int 4 t3⟩, ⟨h2, .str (Str.ofString "known") t2, .ref kn⟩] e) ∈ n) ∧ (kn, o) ∈ n ∧ o.IsDictOf (KB c.w) [] ∧ (kn == sysModules) = false ∧ (∀ q ∈ news, q.1 < dh) ∧ dh < hs ∧ hs < kn) := by
  refine' enterI (binds := fun x => [(Str.ofString "self", .ref x), (Str.ofString "size", .int 4 t)]) ?i1 ?i2 ?i3 ?k6 ?k7 ?k9 ?kB ?c2 ?c3 ?c4 ?c5 ?_ ?d2
  ((case i1 => k_is); (case i2 => k_is); (case i3 => k_is); (case k6 => k_is); (case k7 => k_is); (case k9 => intro x9 s9 X9; first | exact BindsTo.of_eq rfl | exact binds_K X9 rfl (by k_is) rfl rfl rfl); (case kB => intro x9; exact locs rfl); (case c2 => exact rfl); (case c3 => exact rfl); (case c4 => exact rfl); (case c5 => decide); (case d2 => decide); skip)
  intro dp un gd outer A₀ base g9 L' h₁ tk s x dx l1 l2 C hd9 hu9; obtain ⟨B, F, X, N, T, hk9⟩ := C; (try dsimp only); k_fold; (try (refine letA (P := fun A9 => wpAny _ A9 _ _ _ _) _ ?_; intro A9))
  have l3 : ∀ p ∈ news, p.1 ≠ dx := fun p hp => Nat.ne_of_lt (l1 p hp)
  have l4 : ∀ p ∈ news, p.1 < x := fun p hp => Nat.lt_trans (l1 p hp) l2
  (try k_lt2 l2)
  k_steps
  rename Fr _ _ _ _ => F1
  rename News _ _ _ _ => N1
  rename Obj.IsDictOf (PySem.strKind _ _) _ _ => hd1
  rename (_ == sysModules) = false => lo
  rename _ ∧ _ ∧ AllLt _ news => l5
  refine ⟨_, _, rfl, F1, N1, fun p hp => .tail _ (.tail _ (.tail _ hp)), ⟨fun p hp => .tail _ (.tail _ (.tail _ hp)), x, dx, _, _, rfl, .tail _ (.head _), ⟨_, _, _, _, _, _, .tail _ (.tail _ (.head _))⟩, .head _, empty_kind hd1, lo, l1, l2, l5.1⟩, rfl, rfl, rfl⟩
theorem finder_new (c : Cx) (news : Led) (y : Addr) :
   Spec c 533 4 50 [.ref y] news [] (fun r n => (∀ p ∈ news, p ∈ n) ∧ ∃ hs dh kn o, r = .ref hs ∧ (hs, instObj 533 dh) ∈ n ∧ (∃ h1 t1 h2 t2 e, (dh, dictOf [⟨h1, .str (Str.ofString "hasher") t1, .ref y⟩, ⟨h2, .str (Str.ofString "kept") t2, .ref kn⟩] e) ∈ n) ∧ (kn, o) ∈ n ∧ o.IsDictOf (KB c.w) [] ∧ (kn == sysModules) = false ∧ (∀ q ∈ news, q.1 < dh) ∧ dh < hs ∧ hs < kn) := by
  refine' enterI (binds := fun x => [(Str.ofString "self", .ref x), (Str.ofString "hasher", .ref y)]) ?i1 ?i2 ?i3 ?k6 ?k7 ?k9 ?kB ?c2 ?c3 ?c4 ?c5 ?_ ?d2
  ((case i1 => k_is); (case i2 => k_is); (case i3 => k_is); (case k6 => k_is); (case k7 => k_is); (case k9 => intro x9 s9 X9; first | exact BindsTo.of_eq rfl | exact binds_K X9 rfl (by k_is) rfl rfl rfl); (case kB => intro x9; exact locs rfl); (case c2 => exact rfl); (case c3 => exact rfl); (case c4 => exact rfl); (case c5 => decide); (case d2 => decide); skip)
  intro dp un gd outer A₀ base g9 L' h₁ tk s x dx l1 l2 C hd9 hu9; obtain ⟨B, F, X, N, T, hk9⟩ := C; (try dsimp only); k_fold; (try (refine letA (P := fun A9 => wpAny _ A9 _ _ _ _) _ ?_; intro A9))
  have l3 : ∀ p ∈ news, p.1 ≠ dx := fun p hp => Nat.ne_of_lt (l1 p hp)
  have l4 : ∀ p ∈ news, p.1 < x := fun p hp => Nat.lt_trans (l1 p hp) l2
  (try k_lt2 l2)
  k_steps
  rename Fr _ _ _ _ => F1
  rename News _ _ _ _ => N1
  rename Obj.IsDictOf (PySem.strKind _ _) _ _ => hd1
  rename (_ == sysModules) = false => lo
  rename _ ∧ _ ∧ AllLt _ news => l5
  refine ⟨_, _, rfl, F1, N1, fun p hp => .tail _ (.tail _ (.tail _ hp)), ⟨fun p hp => .tail _ (.tail _ (.tail _ hp)), x, dx, _, _, rfl, .tail _ (.head _), ⟨_, _, _, _, _, .tail _ (.tail _ (.head _))⟩, .head _, empty_kind hd1, lo, l1, l2, l5.1⟩, rfl, rfl, rfl⟩
end J_I3
example {M : Model} {A : Around} {Q : Unit → Shared → Prop} {E : Value → Shared → Prop} {s : Shared} : wpAny M A (pure ()) Q E s ∨ True := by w_top off; first | (left; walk1; done) | (right; trivial)
section J_M1
example : True := by
  (k_with "exec For Name Tuple cons nil" => with_reducible refine stopP1 ?_)
  trivial
/-- between the turns of the files -/
structure BlobK (c : Cx) (a : Ads) (p dpp : Addr) (n9 : Led) (M0 : Str → Option Value) (i : Nat) (m : Str → Option Value) (nx : Led) (cnt : Nat) (k : Cnt) (rs : List Rec) : Prop where
  hM : Made c.w nx a cnt k rs
  hP : PersonIn nx a.muts p dpp
  hl : rs.length = i
  hk : ∀ r ∈ rs, r.k = 0
  hb : k.nb = i
  ht : k.nt = 0
  hc : k.nc = 0
  hg : k.ng = 0
  hgo : k.gone ≤ 16 * i
  hcn : cnt ≤ 17 * i
  h1 : ∀ r, rs.head? = some r → r.n = 1
  h0 : i = 0 → cnt = 0
  hs : ∀ q ∈ n9, q.1 ∉ a.muts → q ∈ nx
  hm : ∀ z, z ≠ Str.ofString "content" → m z = M0 z
noncomputable def BlobJ (c : Cx) (a : Ads) (p dpp : Addr) (n9 : Led) (M0 : Str → Option Value) (i : Nat) (m : Str → Option Value) (nx : Led) : Prop := ∃ cnt k rs, BlobK c a p dpp n9 M0 i m nx cnt k rs
example : True := by
  (k_with "call builtin:len" => with_reducible refine stopP6 ?_)
  (k_with "subscriptTail" => with_reducible refine stopP8 ?_)
  (k_with "subscriptTail" => with_reducible refine stopP7 ?_)
  (k_with "subscriptTail" => ((with_reducible show wpAny _ _ (subscriptTail _ _ (Value.ref _) (Value.str _ _)) _ _ _); first | (refine' kda_item (knd := PySem.strKind _ _) ?iN ?im ?ih (strKind_is _ _ _ _) ?iv ?_; (case iN => assumption); (case im => assumption); (case ih => assumption); (case iv => with_unfolding_all rfl)) | (plain_pass; refine stop9 ?_)))
  trivial
theorem lt_of_all {D : Addr} {l : Led} (h : AllLt D l) : ∀ p ∈ l, p.1 < D := by
  induction l with
  | nil => intro p hp; cases hp
  | cons q l ih =>
    intro p hp
    rcases List.mem_cons.mp hp with e | hp
    · rw [e]; exact h.1
    · exact ih h.2 p hp
example : True := by
  (k_with "call builtin:sorted" => with_reducible refine stopP11 ?_)
  trivial
theorem sig_tail (c0 c1 x d : UInt8) (l : List UInt8) : sig ([c0, c1] ++ (l ++ [x, d])) = (some c0, some c1, some x) := by
  unfold sig
  have e1 : ([c0, c1] ++ (l ++ [x, d])).length - 2 = ([c0, c1] ++ l).length := by
    rw [List.length_append, List.length_append, List.length_append]
    show 2 + (l.length + 2) - 2 = 2 + l.length
    omega
  rw [e1, ← List.append_assoc, List.getElem?_append_right (Nat.le_refl _), Nat.sub_self]
  rfl
theorem blob_at {i : Nat} {v : Value} {k : Cnt} {t1 t2 : Tok} (hb : k.nb = i) (hv : (#[Value.bytes #[111, 110, 101] t1, .bytes #[116, 119, 111] t2] : Array Value)[i]? = some v) :
    ∃ cb t, v = .bytes cb t ∧ cb.size = 3 ∧ ∀ mid : Array UInt8, ¬ Seen k (#[98, 108, 111, 98] ++ #[32] ++ mid ++ #[0] ++ cb).toList ∧ Seen { k with nb := i + 1 } (#[98, 108, 111, 98] ++ #[32] ++ mid ++ #[0] ++ cb).toList := by
  have key : ∀ (a x d : UInt8) (mid : Array UInt8), sig (#[98, 108, 111, 98] ++ #[32] ++ mid ++ #[0] ++ #[a, x, d] : Array UInt8).toList = (some 98, some 108, some x) := by
    intro a x d mid
    have e : (#[98, 108, 111, 98] ++ #[32] ++ mid ++ #[0] ++ #[a, x, d] : Array UInt8).toList = [98, 108] ++ ([111, 98, 32] ++ mid.toList ++ [0, a] ++ [x, d]) := by simp
    rw [e]
    exact sig_tail _ _ _ _ _
  have no : ∀ (x : UInt8) (l : List UInt8), sig l = (some 98, some 108, some x) → (k.nb = 0 ∧ x = 110 ∨ k.nb ≤ 1 ∧ x = 119) → ¬ Seen k l := by
    intro x l hs hx
    unfold Seen
    rw [hs]
    rintro (⟨g', _, h2, e⟩ | ⟨h1, e⟩ | ⟨h1, e⟩ | ⟨_, _, e⟩ | ⟨j, hj, e⟩ | ⟨_, _, e⟩) <;> simp only [Prod.mk.injEq, Option.some.injEq] at e
    · exact absurd e.1 (by decide)
    · rcases hx with ⟨a, _⟩ | ⟨_, a⟩
      · omega
      · rw [a] at e; exact absurd e.2.2 (by decide)
    · rcases hx with ⟨_, a⟩ | ⟨a, _⟩
      · rw [a] at e; exact absurd e.2.2 (by decide)
      · omega
    · exact absurd e.1 (by decide)
    · exact absurd e.1 (by decide)
    · exact absurd e.1 (by decide)
  match i, hv with
  | 0, hv =>
    obtain rfl := (Option.some.inj hv).symm
    exact ⟨_, _, rfl, rfl, fun mid => ⟨no 110 _ (key _ 110 _ mid) (.inl ⟨hb, rfl⟩), .inr (.inl ⟨Nat.one_pos, key _ 110 _ mid⟩)⟩⟩
  | 1, hv =>
    obtain rfl := (Option.some.inj hv).symm
    exact ⟨_, _, rfl, rfl, fun mid => ⟨no 119 _ (key _ 119 _ mid) (.inr ⟨Nat.le_of_eq hb, rfl⟩), .inr (.inr (.inl ⟨Nat.lt_succ_self _, key _ 119 _ mid⟩))⟩⟩
  | i + 2, hv => exact absurd hv (by simp)
/-- between the turns of the tags -/
structure TagK (c : Cx) (a : Ads) (p dpp : Addr) (n9 : Led) (M0 : Str → Option Value) (i : Nat) (m : Str → Option Value) (nx : Led) (cnt : Nat) (k : Cnt) (rs : List Rec) : Prop where
  hM : Made c.w nx a cnt k rs
  hP : PersonIn nx a.muts p dpp
  hl : 3 ≤ rs.length ∧ rs.length ≤ 5 + i
  hg : k.ng = i
  hgo : k.gone ≤ 64 + 16 * i
  hcn : cnt ≤ 69 + 17 * i
  hs : ∀ q ∈ n9, q.1 ∉ a.muts → q ∈ nx
  hm : ∀ z, z ≠ Str.ofString "k" → z ≠ Str.ofString "some" → z ≠ Str.ofString "goal" → m z = M0 z
noncomputable def TagJ (c : Cx) (a : Ads) (p dpp : Addr) (n9 : Led) (M0 : Str → Option Value) (i : Nat) (m : Str → Option Value) (nx : Led) : Prop := ∃ cnt k rs, TagK c a p dpp n9 M0 i m nx cnt k rs
theorem map_none3 {m M0 : Str → Option Value} {x y1 y2 : Str} {v : Value} (hm : ∀ z, z ≠ x → z ≠ y1 → z ≠ y2 → m z = M0 z) : (fun y => if y = x then some v else m y) = fun y => if y = x then some v else if y = y1 then m y1 else if y = y2 then m y2 else M0 y := by
  funext y
  by_cases h : y = x
  · simp only [if_pos h]
  simp only [if_neg h]
  by_cases h1 : y = y1
  · rw [if_pos h1, h1]
  rw [if_neg h1]
  by_cases h2 : y = y2
  · rw [if_pos h2, h2]
  rw [if_neg h2, hm y h h1 h2]
/-- between the turns of the commits -/
structure ComK (c : Cx) (a : Ads) (p dpp : Addr) (n9 : Led) (M0 : Str → Option Value) (nt : Nat) (i : Nat) (m : Str → Option Value) (nx : Led) (cnt : Nat) (k : Cnt) (rs : List Rec) : Prop where
  hM : Made c.w nx a cnt k rs
  hP : PersonIn nx a.muts p dpp
  hl : rs.length = 3 + i
  hc : k.nc = i
  hg : k.ng = 0
  hgo : k.gone ≤ 32 + 16 * i
  hcn : cnt ≤ 35 + 17 * i
  ht : ∃ r ∈ rs, r.n = nt ∧ r.k = 1
  hs : ∀ q ∈ n9, q.1 ∉ a.muts → q ∈ nx
  hm : ∀ z, z ≠ Str.ofString "k" → m z = M0 z
noncomputable def ComJ (c : Cx) (a : Ads) (p dpp : Addr) (n9 : Led) (M0 : Str → Option Value) (nt i : Nat) (m : Str → Option Value) (nx : Led) : Prop := ∃ cnt k rs, ComK c a p dpp n9 M0 nt i m nx cnt k rs
theorem CommitIn.lift {news Y : Led} {M : List Addr} {cm dc pl xl p dp : Addr} {g : Nat} {msg : Array UInt8} (h : CommitIn news M cm dc pl xl p dp g msg) (h1 : ∀ o, cm ∉ M → (cm, o) ∈ news → (cm, o) ∈ Y) (h2 : ∀ o, dc ∉ M → (dc, o) ∈ news → (dc, o) ∈ Y) : ∀ v, v = .ref cm → Thing Y M 2 (some g) v := fun v e => by
  refine hushL ?_
  intro hG
  obtain ⟨a1, t1, t, a2, t2, a3, t3, a4, t4, a5, t5, a6, t6, v6, n, hd⟩ := h.dict
  k_unfold
  clear hG
  exact .inr (.inl ⟨rfl, g, cm, dc, rfl, e, ⟨h1 _ h.obj.2 h.obj.1, h.obj.2⟩, a1, t1, t, a2, t2, _, a3, t3, _, a4, t4, _, a5, t5, _, a6, t6, _, n, ⟨h2 _ hd.2 hd.1, hd.2⟩⟩)
theorem TagIn.lift {news Y : Led} {M : List Addr} {tg dc p dp : Addr} {g k : Nat} {msg : Array UInt8} (h : TagIn news M tg dc p dp g k msg) (h1 : ∀ o, tg ∉ M → (tg, o) ∈ news → (tg, o) ∈ Y) (h2 : ∀ o, dc ∉ M → (dc, o) ∈ news → (dc, o) ∈ Y) : ∀ v, v = .ref tg → Thing Y M 3 (some g) v := fun v e => by
  refine hushL ?_
  intro hG
  obtain ⟨a1, t1, t, a2, t2, u2, a3, t3, u3, a4, t4, a5, t5, u5, a6, t6, u6, n, hd⟩ := h.dict
  k_unfold
  clear hG
  exact .inr (.inr ⟨rfl, g, tg, dc, rfl, e, ⟨h1 _ h.obj.2 h.obj.1, h.obj.2⟩, a1, t1, t, a2, t2, _, a3, t3, _, a4, t4, _, a5, t5, _, a6, t6, _, n, ⟨h2 _ hd.2 hd.1, hd.2⟩⟩)
theorem len_idsL {prog : Program} {w : World} {A : Around} {E : Value → Shared → Prop} {s : Shared} {h₀ : Heap} {L : Addr} {rest : Led} {D : Addr} {ts : List (Array UInt8 × Tok)} {cc n : Nat} {Q : Value → Shared → Prop} (N : News h₀ L s.heap ((D, idsL ts cc) :: rest)) (hts : ts.length = n) (hn : n ≤ 20) (h : Q (.int n (s.toks + 1)) { s with toks := s.toks + 1 + 1 }) :
    wpAny (model prog w) A (call (.builtin "len") [.ref D]) Q E s := by
  have e : (ts.map fun p => Value.bytes p.1 p.2).toArray.size = n := by rw [List.size_toArray, List.length_map, hts]
  exact len_list (N.isList (.head _)) (by rw [e]; omega) (by rw [e]; exact h)
theorem made_spec (c : Cx) (a : Ads) (news : Led) (hM : Made8 c.w news a) :
   SpecR c 566 60 1000 [.ref a.d, .ref a.wd] news a.muts (fun r n' => r = .none ∧ ∃ cnt k rs, Made c.w n' a cnt k rs ∧ 2 ≤ rs.length) := by
  refine' enterR (binds := [(Str.ofString "deck", .ref a.d), (Str.ofString "w", .ref a.wd)]) ?k6 ?k7 ?k9 ?kB ?c2 ?c3 ?c4 ?c5 ?_
  ((case k6 => k_is); (case k7 => k_is); (case k9 => intro s9 X9; first | exact BindsTo.of_eq rfl | exact binds_K X9 rfl (by k_is) rfl rfl rfl); (case kB => exact locs rfl); (case c2 => exact rfl); (case c3 => exact rfl); (case c4 => exact rfl); (case c5 => decide); skip)
  intro dp un gd outer A₀ base g L' h₁ tk s C hd9 hu9; obtain ⟨B, F, X, N, T, hk9⟩ := C; (try dsimp only)
  refine hideR fun Q9 hQ9 => ?_
  refine letA (P := fun A9 => wpR _ A9 _ _ _) _ ?_
  intro A9
  refine wpR_step ?_
  k_fold
  refine hushL ?_
  intro hG
  obtain ⟨ow, tw, hmw, hdw⟩ := hM.wd
  k_unfold
  clear hG
  k_steps
  unfold Stop9
  refine' Spec.use (person_new c _ a.muts _ _ _ _ hM.off) ?sB ?sF ?sX ?sN ?sT ?sk ?sd ?su ?_
  ((case sB => assumption); (case sF => assumption); (case sX => assumption); (case sN => assumption); (case sT => assumption); (case sk => first | rfl | assumption); (case sd => (first | (refine' room9 ?rh ?rk; (case rh => assumption); (case rk => rfl)) | (refine' room1 ?rh ?rk; (case rh => assumption); (case rk => rfl)) | omega)); (case su => (first | (refine' room9 ?rh ?rk; (case rh => assumption); (case rk => rfl)) | (refine' room1 ?rh ?rk; (case rh => assumption); (case rk => rfl)) | omega)))
  intro v n9 h9 t9 hv9 hs9 F9 N9 K9
  refine hushL ?_
  intro hGG
  obtain ⟨hs8, p, dpp, rfl, hP, hltp⟩ := hv9
  k_unfold
  clear hGG
  replace hM := hM.made hs8 hP.1 hltp
  dsimp only
  k_steps
  refine wpR_step ?_
  k_steps
  unfold Stop9
  rename Fr _ _ _ _ => F1
  refine' For_invVF F1 ?k1 ?k2 ?_
  case k1 => exact rfl
  case k2 => exact rfl
  k_steps
  unfold Stop9
  rename Fr _ _ _ _ => F1
  rename News _ _ _ _ => N1
  rename _ ∧ AllLt _ n9 => ll
  have hDc := hM.off _ (fun p hp => lt_of_all ll.2 p hp)
  refine hushL ?_
  intro hG
  obtain ⟨M0, hM0, F1⟩ := fr_map F1
  k_unfold
  clear hG
  have zle := (N1 _ (.head _)).2.1
  refine' for_goE (BlobJ c a p dpp n9 M0) ?fh ?fs ?fL ?fF ?fN ?fJ ?_ ?_
  case fF => exact F1
  case fN => exact N1
  case fh => rfl
  case fs => exact srcE_tuple ⟨_, (N1 _ (.head _)).1, rfl, 0, rfl⟩
  case fL => intro hm; exact zle (List.mem_singleton.mp hm).symm
  case fJ => exact ⟨0, _, [], hM.to fun p hp => .tail _ (.tail _ hp), hP.to (S := []) (by simp) fun p hp _ => .tail _ (.tail _ hp), rfl, by simp, rfl, rfl, rfl, rfl, by simp, by simp, by simp, fun _ => rfl, fun p hp _ => .tail _ (.tail _ hp), fun z _ => rfl⟩
  · clear F1 N1 zle hM hP
    intro I oI i v m₁ nx h tk own QT hi hv hJ hnI hown hIo F3 N3 hQT
    refine hushL ?_
    intro hG
    obtain ⟨cnt, k, rs, J⟩ := hJ
    k_unfold
    clear hG
    have hS := Side.loop J.hM hnI hown hIo (fun x hx => by rw [List.mem_singleton.mp hx]; exact hDc)
    rw [map_none J.hm, hM0] at F3
    dsimp only at F3 N3
    refine hushL ?_
    intro hGG
    obtain ⟨cb, tcb, rfl, hcb, hseen⟩ := blob_at J.hb hv
    k_unfold
    clear hGG
    have hi2 : i < 2 := hi
    k_steps
    unfold Stop9
    rename_i κ h4 F4 N4 l4
    have N4 : News g L' h4 ((κ, tup2 (.bytes #[98, 108, 111, 98] tk) .none) :: (nx ++ own)) := N4
    have hM5 := J.hM.to (n' := (κ, tup2 (.bytes #[98, 108, 111, 98] tk) .none) :: (nx ++ own)) (fun p hp => .tail _ (List.mem_append_left _ hp))
    have hM6 := J.hM.to (n' := (κ, tup2 (.bytes #[98, 108, 111, 98] tk) .none) :: nx) (fun p hp => .tail _ hp)
    have hS6 := hS.cons (o := tup2 (.bytes #[98, 108, 111, 98] tk) .none) (fun p hp => l4 p (List.mem_append_right _ hp))
    have hκ := J.hM.off κ (fun p hp => l4 p (List.mem_append_left _ hp))
    have hl9 := J.hM.ok.len
    have hcn := J.hcn
    have hgo := J.hgo
    have hb := J.hb
    have hlen := J.hl
    refine hushL ?_
    intro hG
    obtain ⟨ow, tw, hmw, hdw⟩ := hM5.wd
    k_unfold
    clear hG
    refine hushL ?_
    intro hG
    obtain ⟨⟨m1, hq1⟩, hz1, t4, hz2, t5, n, m2, hq2⟩ := hM5.fr.st
    k_unfold
    clear hG
    dsimp only
    k_steps
    unfold Stop9
    refine' Spec.use (write_spec c a cnt k { k with nb := i + 1 } cb _ _ _ (rs.map fun r => (idL r.n, .ref r.τ)) hM5.fr hM5.hash hM5.kept.1 (by omega) (by omega) (J.hM.fresh (by omega) _) (by rw [List.length_map]; omega) hseen (fun l hl => hl.up (Nat.le_refl _) (by show k.nb ≤ i + 1; omega) (Nat.le_refl _) (Nat.le_refl _) (Nat.le_refl _))) ?sB ?sF ?sX ?sN ?sT ?sk ?sd ?su ?_
    ((case sB => assumption); (case sF => assumption); (case sX => assumption); (case sN => assumption); (case sT => assumption); (case sk => first | rfl | assumption); (case sd => (first | (refine' room9 ?rh ?rk; (case rh => assumption); (case rk => rfl)) | (refine' room1 ?rh ?rk; (case rh => assumption); (case rk => rfl)) | omega)); (case su => (first | (refine' room9 ?rh ?rk; (case rh => assumption); (case rk => rfl)) | (refine' room1 ?rh ?rk; (case rh => assumption); (case rk => rfl)) | omega)))
    intro v n8 h8 t8 hW8 hs8 F8 N8 K8
    clear hM5 N4 F4 m1 m2 hmw
    refine hushL ?_
    intro hG
    obtain ⟨Y8, hW, hs7, hS8, N8, _⟩ := wrote_side hM6 hS6 (fun p hp => .tail _ (List.mem_append_right _ hp)) hs8 N8 hW8
    k_unfold
    clear hG
    clear hW8 hs8
    refine put_side (kd := 0) (goal := none) hM6 hS8 (by decide) F8 N8 hW hs7 ⟨hs7 _ (.head _) (fun e => hκ (by simp at e; rcases e with e | e <;> simp [e, Ads.muts])), hκ⟩ rfl (fun v _ => .inl ⟨by decide, rfl⟩) rfl (by omega) (by omega) (fun g e => by cases e) (fun h6 Y6 τ F6 N6 hS9 hs6 hM9 => ?_)
    clear F8 N8
    refine hushL ?_
    intro hG
    obtain ⟨ow, tw, hmw, hdw⟩ := hM9.wd
    k_unfold
    clear hG
    replace hmw := List.mem_append_left own hmw
    dsimp only
    k_steps
    unfold Stop9
    refine gap_step hM9 hS9 B F6 X N6 T rfl (by omega) (by omega) (by show k.gone ≤ 110; omega) (by omega) (fun Y5 h5 t5 e he hM5 hS5 hs5 F5 N5 => ?_)
    clear F6 N6 hmw
    dsimp only
    k_steps
    refine hQT _ _ _ _ Y5 F5 N5 (fun q hq => List.mem_append_left _ hq) (fun q hq => List.mem_append_right _ hq) hS5.all ⟨cnt + 1 + e, _, _, hM5, ?_, ?_, ?_, rfl, J.ht, J.hc, J.hg, ?_, ?_, ?_, fun h => absurd h (Nat.succ_ne_zero i), ?_, ?_⟩
    · have hk2 : ∀ q ∈ nx, q.1 ∉ a.muts → q ∈ Y5 := fun q hq hn => hs5 q (hs6 q (hs7 q (.tail _ hq) (fun e => hn (by simp at e; rcases e with e | e <;> simp [e, Ads.muts]))) hn) hn
      exact J.hP.to (S := a.muts) (fun _ h => h) hk2
    · rw [List.length_append, hlen]; rfl
    · intro r hr
      rcases List.mem_append.mp hr with hr | hr
      · exact J.hk r hr
      · rw [List.mem_singleton.mp hr]
    · show k.gone + e ≤ _; omega
    · omega
    · intro r hr
      match rs, hr, J with
      | [], hr, J =>
        obtain rfl := Option.some.inj hr
        show cnt + 1 = 1
        rw [J.h0 J.hl.symm]
      | x :: rs, hr, J => exact J.h1 r hr
    · exact fun q hq hn => hs5 q (hs6 q (hs7 q (.tail _ (J.hs q hq hn)) (fun e => hn (by simp at e; rcases e with e | e <;> simp [e, Ads.muts]))) hn) hn
    · intro z hz
      simp only [if_neg hz, hM0]
  · intro m₁ nx h tk hJ F4 N4
    clear F1 N1 hM hP
    refine hushL ?_
    intro hG
    obtain ⟨cnt, k, rs, J⟩ := hJ
    k_unfold
    clear hG
    rw [← done_none J.hm, hM0] at F4
    dsimp only at F4 N4
    show wpR _ _ _ _ _
    have hM := J.hM
    have hP := J.hP
    have hS : Side (fun _ => True) nx [] a := ⟨by simp, fun _ _ => trivial, fun _ _ => trivial⟩
    have hlen : rs.length = 2 := J.hl
    have hcn : cnt ≤ 34 := J.hcn
    have hgo : k.gone ≤ 32 := J.hgo
    have hr0 : (rs[0]'(by omega)).n = 1 := J.h1 _ (by rw [List.head?_eq_getElem?, List.getElem?_eq_getElem (by omega)])
    rw [← List.append_nil nx] at N4
    refine hushL ?_
    intro hG
    obtain ⟨ow, tw, hmw, hdw⟩ := hM.wd
    k_unfold
    clear hG
    replace hmw := List.mem_append_left [] hmw
    refine wpR_step ?_
    k_steps
    unfold Stop9
    rename News _ _ _ _ => N5
    rename Fr _ _ _ _ => F5
    refine sort_step hM (by omega) F5 N5 rfl (fun D1 h6 t6 ts cc F6 N6 hlt hts => ?_)
    clear F5 N5
    obtain ⟨t0, ht0⟩ := ids_at hts (i := 0) (by omega)
    rw [hr0] at ht0
    dsimp only
    k_steps
    unfold Stop9
    refine item_listR (N6.isList (.head _)) (by decide) (by decide) ht0 ?_
    replace N6 : News g L' h6 (nx ++ []) := News.sub N6 fun q hq => .tail _ hq
    k_steps
    refine hushL ?_
    intro hG
    obtain ⟨⟨m1, hq1⟩, hz1, t4, hz2, t5, n, m2, hq2⟩ := hM.fr.st
    k_unfold
    clear hG
    replace m1 := List.mem_append_left [] m1
    replace m2 := List.mem_append_left [] m2
    refine wpR_execs_cons (wpR_Assign_Name (wpR_Method ?_))
    k_steps
    refine wpR_callK (K := hd.heap_1 c.w.params) (by k_is) (wpR_args (wpR_any ?_))
    k_steps
    unfold Stop9
    refine' Spec.use (entry_new c _ _ _ _) ?sB ?sF ?sX ?sN ?sT ?sk ?sd ?su ?_
    ((case sB => assumption); (case sF => assumption); (case sX => assumption); (case sN => assumption); (case sT => assumption); (case sk => first | rfl | assumption); (case sd => (first | (refine' room9 ?rh ?rk; (case rh => assumption); (case rk => rfl)) | (refine' room1 ?rh ?rk; (case rh => assumption); (case rk => rfl)) | omega)); (case su => (first | (refine' room9 ?rh ?rk; (case rh => assumption); (case rk => rfl)) | (refine' room1 ?rh ?rk; (case rh => assumption); (case rk => rfl)) | omega)))
    intro v n8 h8 t8 hv8 hs8 F8 N8 K8
    refine hushL ?_
    intro hGG
    obtain ⟨hs7, en, de, rfl, hE⟩ := hv8
    k_unfold
    clear hGG
    replace m1 := hs7 _ m1
    replace m2 := hs7 _ m2
    dsimp only
    k_steps
    unfold Stop9
    rename_i le _ _ _ _
    refine' Spec.use (tree_new c _ le en de 0 (.head _) (hE.to fun q hq => .tail _ hq)) ?sB ?sF ?sX ?sN ?sT ?sk ?sd ?su ?_
    ((case sB => assumption); (case sF => assumption); (case sX => assumption); (case sN => assumption); (case sT => assumption); (case sk => first | rfl | assumption); (case sd => (first | (refine' room9 ?rh ?rk; (case rh => assumption); (case rk => rfl)) | (refine' room1 ?rh ?rk; (case rh => assumption); (case rk => rfl)) | omega)); (case su => (first | (refine' room9 ?rh ?rk; (case rh => assumption); (case rk => rfl)) | (refine' room1 ?rh ?rk; (case rh => assumption); (case rk => rfl)) | omega)))
    intro v n6 h6 t6 hv6 hs6 F6 N6 K6
    refine hushL ?_
    intro hGG
    obtain ⟨hs5, tr, dt, rfl, hT⟩ := hv6
    k_unfold
    clear hGG
    have hnx : ∀ q ∈ nx, q ∈ n6 := fun q hq => hs5 q (.tail _ (hs7 q (List.mem_append_left _ hq)))
    clear hs5 hs6 hs7 hs8 K8 K6 m1 m2 hE
    have hM6 := hM.to hnx
    refine wpR_args0 ?_
    refine ⟨X.keeps F6.keep, ?_⟩
    dsimp only
    refine' SpecR.use (wtree_spec c a cnt k tr dt le en de _ (rs.map fun r => (idL r.n, .ref r.τ)) hM6.fr hM6.hash hM6.kept.1 hT (by omega) (hM.fresh (by omega) _) (by rw [List.length_map]; omega) J.ht) ?sB ?sF ?sX ?sN ?sT ?sk ?sd ?su ?_
    ((case sB => assumption); (case sF => assumption); (case sX => assumption); (case sN => assumption); (case sT => assumption); (case sk => first | rfl | assumption); (case sd => (first | (refine' room9 ?rh ?rk; (case rh => assumption); (case rk => rfl)) | (refine' room1 ?rh ?rk; (case rh => assumption); (case rk => rfl)) | omega)); (case su => (first | (refine' room9 ?rh ?rk; (case rh => assumption); (case rk => rfl)) | (refine' room1 ?rh ?rk; (case rh => assumption); (case rk => rfl)) | omega)))
    intro v n8 h8 t8 hW8 hs8 F8 N8 K8
    obtain ⟨Y8, hW, hs7, hS8, N8, _⟩ := wrote_side (own := []) hM6 (⟨by simp, fun _ _ => trivial, fun _ _ => trivial⟩ : Side (fun _ => True) n6 [] a) (by simp) (by rw [List.append_nil]; exact hs8) N8 hW8
    clear hW8 hs8 N6 F6
    refine hushL ?_
    intro hGG
    obtain ⟨tt, τ1, tk1, th1, rfl, hH1, hK1, hO1, hth1, hlt1⟩ := id hW
    k_unfold
    clear hGG
    dsimp only
    k_steps
    refine wpR_step ?_
    have hW8 := hM6.wd.to (S := [a.kn, a.kp]) (by have := hM.fr.ne; simp; exact ⟨this.2.2.2.2.2.2.2.2.2.2.1.symm, this.2.2.2.2.2.2.2.2.2.2.2.2.1.symm⟩) hs7
    k_steps
    unfold Stop9
    rename_i κ h9 F9 N9 l9
    replace N9 : News g L' h9 (((κ, tup2 (.bytes #[116, 114, 101, 101] (t8 + 1)) .none) :: Y8) ++ []) := N9
    have hκ : κ ∉ a.muts := (hM6.fr.to (S := [a.kn, a.kp]) (by simp [Ads.muts]) hs7).fresh (fun q hq => l9 q (List.mem_append_left _ hq))
    refine hushL ?_
    intro hG
    obtain ⟨ow, tw, hmw, hdw⟩ := hW8
    k_unfold
    clear hG
    replace hmw : (a.wd, ow) ∈ ((κ, tup2 (.bytes #[116, 114, 101, 101] (t8 + 1)) .none) :: Y8) ++ [] := .tail _ (List.mem_append_left [] hmw)
    dsimp only
    k_steps
    rename Fr _ _ _ _ => F9
    rename News _ _ _ _ => N9
    refine put_side (kd := 1) (goal := none) hM6 (hS8.cons (by simp)) (by decide) F9 N9 (hW.off (P := fun _ => True) (fun _ _ => trivial) trivial trivial (fun q hq _ => .tail _ hq)) (fun q hq hn => .tail _ (hs7 q hq hn)) ⟨.head _, hκ⟩ rfl (fun v _ => .inl ⟨by decide, rfl⟩) rfl (by omega) (by omega) (fun g e => by cases e) (fun h5 Y5 τ F5 N5 hS5 hs5 hM5 => ?_)
    have hk9 : ∀ q ∈ nx, q.1 ∉ a.muts → q ∈ Y5 := fun q hq hn => hs5 q (.tail _ (hs7 q (hnx q hq) (fun e => hn (by simp at e; rcases e with e | e <;> simp [e, Ads.muts])))) hn
    have hP5 := hP.to (S := a.muts) (fun _ h => h) hk9
    have hs0 : ∀ q ∈ n9, q.1 ∉ a.muts → q ∈ Y5 := fun q hq hn => hk9 q (J.hs q hq hn) hn
    have hl5 : (rs ++ [(⟨cnt + 1, 1, none, τ, κ⟩ : Rec)]).length = 3 := by rw [List.length_append, hlen]; rfl
    have ht5 : ∃ r ∈ rs ++ [(⟨cnt + 1, 1, none, τ, κ⟩ : Rec)], r.n = cnt + 1 ∧ r.k = 1 := ⟨_, List.mem_append_right _ (.head _), rfl, rfl⟩
    have hc0 := J.hc
    have hg0 := J.hg
    clear hk9 hs5 hs7 hS8 hκ l9 hW hT hM6 hnx hts hM hP hS J hr0 ht0 hlen hmw hdw N9 F9
    generalize rs ++ [(⟨cnt + 1, 1, none, τ, κ⟩ : Rec)] = rs5 at hM5 hl5 ht5
    dsimp only
    k_steps
    refine wpR_step ?_
    k_steps
    unfold Stop9
    refine draw_step hM5 hS5 B (by assumption) X (by assumption) T rfl (by omega) (by omega) (by decide) (fun Y6 h6 t6 i tk6 hi hM6 hS6 hs6 F6 N6 => ?_)
    have hP6 := hP5.to (S := a.muts) (fun _ h => h) hs6
    replace hs6 : ∀ q ∈ n9, q.1 ∉ a.muts → q ∈ Y6 := fun q hq hn => hs6 q (hs0 q hq hn) hn
    clear hM5 hS5 hP5 hs0
    dsimp only
    k_steps
    unfold Stop9
    rename Fr _ _ _ _ => F8
    rename News _ _ _ _ => N8
    rename IsRange _ _ _ _ _ _ _ _ => hR
    rw [show (1 : Int) + (i : Int) = ((1 + i : Nat) : Int) from by omega] at hR
    replace N8 : News g L' _ Y6 := News.sub N8 fun q hq => List.mem_append_left _ hq
    refine hushL ?_
    intro hG
    obtain ⟨M1, hM1, F8⟩ := fr_map F8
    k_unfold
    clear hG
    have hn2 : 1 + i ≤ 2 := by omega
    have hgo5 : k.gone ≤ 32 := hgo
    refine' for_goE (ComJ c a p dpp n9 M1 (cnt + 1)) ?fh ?fs ?fL ?fF ?fN ?fJ ?_ ?_
    case fF => exact F8
    case fN => exact N8
    case fh => rfl
    case fs => exact srcE_range hR (by omega)
    case fL => intro hm; cases hm
    case fJ => exact ⟨_, _, rs5, hM6, hP6, hl5, hc0, hg0, hgo5, by omega, ht5, hs6, fun z _ => rfl⟩
    · clear F8 N8 hM6 hP6 hl5 hc0 hg0 hgo5 hgo ht5 hs6 hR
      generalize cnt + 1 = nt at hM1 ⊢
      clear hcn
      intro I oI j v m₂ nx2 h2 tk2 own QT hj hv hJ hnI hown hIo F3 N3 hQT
      obtain ⟨tv, rfl⟩ := hv
      refine hushL ?_
      intro hG
      obtain ⟨cnt, k, rs, J⟩ := hJ
      k_unfold
      clear hG
      have hS := Side.loop J.hM hnI hown hIo (fun x hx => by cases hx)
      rw [map_none J.hm, hM1] at F3
      dsimp only at F3 N3
      have hl9 := J.hM.ok.len
      have hcn := J.hcn
      have hgo := J.hgo
      have hlen := J.hl
      have hnc := J.hc
      k_steps
      unfold Stop9
      refine gap_step J.hM hS B (by assumption) X (by assumption) T rfl (by omega) (by omega) (by omega) (by omega) (fun Y5 h5 t5 e he hM5 hS5 hs5 F5 N5 => ?_)
      have hP5 := J.hP.to (S := a.muts) (fun _ h => h) hs5
      have hs0 : ∀ q ∈ n9, q.1 ∉ a.muts → q ∈ Y5 := fun q hq hn => hs5 q (J.hs q hq hn) hn
      clear F3 N3 hS hs5
      dsimp only
      k_steps
      unfold Stop9
      rename_i κ h4 F4 N4 l4
      replace N4 : News g L' h4 (((κ, tup2 (.bytes #[99, 111, 109, 109, 105, 116] t5) (.bytes (idA nt) tt)) :: Y5) ++ own) := N4
      have hκ := hM5.off κ (fun q hq => l4 q (List.mem_append_left _ hq))
      have hS6 := hS5.cons (o := tup2 (.bytes #[99, 111, 109, 109, 105, 116] t5) (.bytes (idA nt) tt)) (fun q hq => l4 q (List.mem_append_right _ hq))
      have hM6 := hM5.to (n' := (κ, tup2 (.bytes #[99, 111, 109, 109, 105, 116] t5) (.bytes (idA nt) tt)) :: Y5) (fun q hq => .tail _ hq)
      replace hP5 := hP5.to (S := []) (news' := (κ, tup2 (.bytes #[99, 111, 109, 109, 105, 116] t5) (.bytes (idA nt) tt)) :: Y5) (by simp) (fun q hq _ => .tail _ hq)
      replace hs0 : ∀ q ∈ n9, q.1 ∉ a.muts → q ∈ ((κ, tup2 (.bytes #[99, 111, 109, 109, 105, 116] t5) (.bytes (idA nt) tt)) :: Y5 : Led) := fun q hq hn => .tail _ (hs0 q hq hn)
      have hκ6 : (κ, tup2 (.bytes #[99, 111, 109, 109, 105, 116] t5) (.bytes (idA nt) tt)) ∈ ((κ, tup2 (.bytes #[99, 111, 109, 109, 105, 116] t5) (.bytes (idA nt) tt)) :: Y5 : Led) := .head _
      generalize hY : ((κ, tup2 (.bytes #[99, 111, 109, 109, 105, 116] t5) (.bytes (idA nt) tt)) :: Y5 : Led) = Y6 at N4 hS6 hM6 hP5 hs0 hκ6
      clear hY hM5 hS5 l4
      refine hushL ?_
      intro hG
      obtain ⟨ow, tw, hmw, hdw⟩ := hM6.wd
      k_unfold
      clear hG
      replace hmw := List.mem_append_left own hmw
      refine hushL ?_
      intro hG
      obtain ⟨⟨m1, hq1⟩, hz1, t4, hz2, t6, n, m2, hq2⟩ := hM6.fr.st
      k_unfold
      clear hG
      replace m1 := List.mem_append_left own m1
      replace m2 := List.mem_append_left own m2
      dsimp only
      k_steps
      unfold Stop9
      rename_i pl _ _ xl _ _ bl _ _ _ tb _ F9 N9 _ _ _
      refine' Spec.use (commit_new c _ a.muts nt pl xl p dpp 0 0 _ _ _ ?q1 (.tail _ (.tail _ (.head _))) (.tail _ (.head _)) ?q2) ?sB ?sF ?sX ?sN ?sT ?sk ?sd ?su ?_
      ((case sB => assumption); (case sF => assumption); (case sX => assumption); (case sN => assumption); (case sT => assumption); (case sk => first | rfl | assumption); (case sd => (first | (refine' room9 ?rh ?rk; (case rh => assumption); (case rk => rfl)) | (refine' room1 ?rh ?rk; (case rh => assumption); (case rk => rfl)) | omega)); (case su => (first | (refine' room9 ?rh ?rk; (case rh => assumption); (case rk => rfl)) | (refine' room1 ?rh ?rk; (case rh => assumption); (case rk => rfl)) | omega)))
      case q1 => exact fun D hD => hM6.off D fun q hq => hD q (.tail _ (.tail _ (.tail _ (List.mem_append_left _ hq))))
      case q2 => exact hP5.to (S := []) (by simp) fun q hq _ => .tail _ (.tail _ (.tail _ (List.mem_append_left _ hq)))
      intro v n8 h8 t8 hv8 hs8 F8 N8 K8
      refine hushL ?_
      intro hGG
      obtain ⟨hs7, cm, dc, rfl, hC, hlt⟩ := hv8
      k_unfold
      clear hGG
      have hmsg : (#[(97 + (0 + (j : Int) * 1)).toNat.toUInt8, (Int.toNat 10).toUInt8] : Array UInt8) = #[(97 + k.nc).toUInt8, 10] := by
        rw [show (97 + (0 + (j : Int) * 1)).toNat = 97 + k.nc from by omega]; rfl
      replace hC := (congrArg (CommitIn n8 a.muts cm dc pl xl p dpp nt) hmsg).mp hC
      replace hs7 : ∀ q ∈ Y6 ++ own, q ∈ n8 := fun q hq => hs7 q (.tail _ (.tail _ (.tail _ hq)))
      replace hlt : ∀ q ∈ Y6 ++ own, q.1 < cm ∧ q.1 < dc := fun q hq => hlt q (.tail _ (.tail _ (.tail _ hq)))
      have hM8 := hM6.to (n' := n8) (fun q hq => hs7 q (List.mem_append_left _ hq))
      clear N9 F9 m1 m2 hmw hs8 K8
      dsimp only
      k_steps
      unfold Stop9
      refine' Spec.use (wcommit_spec c a (cnt + e) { k with gone := k.gone + e } cm dc pl xl p dpp nt _ (rs.map fun r => (idL r.n, .ref r.τ)) hM8.fr hM8.hash hM8.kept.1 (by omega) (hM8.fresh (by omega) _) (by rw [List.length_map]; omega) (by show k.nc ≤ 10; omega) hC) ?sB ?sF ?sX ?sN ?sT ?sk ?sd ?su ?_
      ((case sB => assumption); (case sF => assumption); (case sX => assumption); (case sN => assumption); (case sT => assumption); (case sk => first | rfl | assumption); (case sd => (first | (refine' room9 ?rh ?rk; (case rh => assumption); (case rk => rfl)) | (refine' room1 ?rh ?rk; (case rh => assumption); (case rk => rfl)) | omega)); (case su => (first | (refine' room9 ?rh ?rk; (case rh => assumption); (case rk => rfl)) | (refine' room1 ?rh ?rk; (case rh => assumption); (case rk => rfl)) | omega)))
      intro v n7 h7 t7 hW7 hs6 F7 N7 K7
      refine hushL ?_
      intro hG
      obtain ⟨Y7, hW, hk7, hS7, N7, hin7⟩ := wrote_side hM6 hS6 (fun q hq => hs7 q (List.mem_append_right _ hq)) (fun q hq hn => hs6 q (hs7 q hq) hn) N7 hW7
      k_unfold
      clear hG
      clear hW7 N8 F8 K7
      have hnS : ∀ x, x ∉ a.muts → x ∉ [a.kn, a.kp] := fun x hx e => hx (by simp at e; rcases e with e | e <;> simp [e, Ads.muts])
      refine put_side (kd := 2) (goal := some nt) hM6 hS7 (by decide) F7 N7 hW hk7 ⟨hk7 _ hκ6 (hnS _ hκ), hκ⟩ ⟨tt, rfl⟩
        (hC.lift (fun o hm h => hin7 _ (hs6 _ h (hnS _ hm)) (hS6.fresh _ fun q hq => (hlt q (List.mem_append_right _ hq)).1)) (fun o hm h => hin7 _ (hs6 _ h (hnS _ hm)) (hS6.fresh _ fun q hq => (hlt q (List.mem_append_right _ hq)).2)))
        rfl (by omega) (by omega) (fun g' e' => by cases e'; obtain ⟨r, a1, a2, a3⟩ := J.ht; exact ⟨r, a1, a2, fun _ => a3⟩) (fun h6 Y9 τ F6 N6 hS9 hs9 hM9 => ?_)
      clear F7 N7
      dsimp only
      k_steps
      refine hQT _ _ _ _ Y9 F6 N6 (fun q hq => List.mem_append_left _ hq) (fun q hq => List.mem_append_right _ hq) hS9.all ⟨_, _, _, hM9, ?_, ?_, ?_, J.hg, ?_, ?_, ?_, ?_, ?_⟩
      · exact hP5.to (S := a.muts) (fun _ h => h) (fun q hq hn => hs9 q (hk7 q hq (hnS _ hn)) hn)
      · rw [List.length_append, hlen]; rfl
      · show k.nc + 1 = j + 1; omega
      · show k.gone + e ≤ _; omega
      · omega
      · refine hushL ?_
        intro hG
        obtain ⟨r, a1, a2⟩ := J.ht
        k_unfold
        clear hG
        exact ⟨r, List.mem_append_left _ a1, a2⟩
      · exact fun q hq hn => hs9 q (hk7 q (hs0 q hq hn) (hnS _ hn)) hn
      · intro z hz
        simp only [if_neg hz, hM1]
    · clear hM6 hP6 hs6 hR
      intro m₃ nx2 h2 tk2 hJ F4 N4
      clear F8 N8
      refine hushL ?_
      intro hG
      obtain ⟨cnt2, k2, rs2, J⟩ := hJ
      k_unfold
      clear hG
      rw [← done_none J.hm, hM1] at F4
      generalize cnt + 1 = nt at F4 hM1
      dsimp only at F4 N4
      show wpR _ _ _ _ _
      have hS5 : Side (fun _ => True) nx2 [] a := ⟨by simp, fun _ _ => trivial, fun _ _ => trivial⟩
      replace N4 : News g L' h2 (nx2 ++ []) := by rw [List.append_nil]; exact N4
      refine wpR_step ?_
      k_steps
      unfold Stop9
      refine draw_step J.hM hS5 B (by assumption) X (by assumption) T rfl (by omega) (by omega) (by decide) (fun Y6 h6 t6 i3 tk6 hi3 hM6 hS6 hs6 F6 N6 => ?_)
      have hP6 := J.hP.to (S := a.muts) (fun _ h => h) hs6
      replace hs6 : ∀ q ∈ n9, q.1 ∉ a.muts → q ∈ Y6 := fun q hq hn => hs6 q (J.hs q hq hn) hn
      dsimp only
      k_steps
      unfold Stop9
      rename Fr _ _ _ _ => F8
      rename News _ _ _ _ => N8
      rename IsRange _ _ _ _ _ _ _ _ => hR
      rw [show (1 : Int) + (i3 : Int) = ((1 + i3 : Nat) : Int) from by omega] at hR
      replace N8 : News g L' _ Y6 := News.sub N8 fun q hq => List.mem_append_left _ hq
      refine hushL ?_
      intro hG
      obtain ⟨M2, hM2, F8⟩ := fr_map F8
      k_unfold
      clear hG
      have hn3 : 1 + i3 ≤ 3 := by omega
      have hgo2 := J.hgo
      have hcn2 := J.hcn
      have hl2 := J.hl
      refine' for_goE (TagJ c a p dpp n9 M2) ?fh ?fs ?fL ?fF ?fN ?fJ ?_ ?_
      case fF => exact F8
      case fN => exact N8
      case fh => rfl
      case fs => exact srcE_range hR (by omega)
      case fL => intro hm; cases hm
      case fJ => exact ⟨_, _, rs2, hM6, hP6, ⟨by omega, by omega⟩, J.hg, by omega, by omega, hs6, fun z _ _ _ => rfl⟩
      · clear F8 N8 hM6 hP6 hs6 hR J hgo2 hcn2 hl2 hgo5 hl5 ht5 hc0 hg0 hi hgo hcn hS6 hS5
        intro I oI j v m₂ nx3 h3 tk3 own QT hj hv hJ hnI hown hIo F3 N3 hQT
        obtain ⟨tv, rfl⟩ := hv
        refine hushL ?_
        intro hG
        obtain ⟨cnt, k, rs, J⟩ := hJ
        k_unfold
        clear hG
        have hS := Side.loop J.hM hnI hown hIo (fun x hx => by cases hx)
        rw [map_none3 J.hm, hM2] at F3
        dsimp only at F3 N3
        have hl9 := J.hM.ok.len
        have hcn := J.hcn
        have hgo := J.hgo
        have hlen := J.hl
        have hng := J.hg
        k_steps
        unfold Stop9
        refine gap_step J.hM hS B (by assumption) X (by assumption) T rfl (by omega) (by omega) (by omega) (by omega) (fun Y5 h5 t5 e he hM5 hS5 hs5 F5 N5 => ?_)
        have hP5 := J.hP.to (S := a.muts) (fun _ h => h) hs5
        have hs0 : ∀ q ∈ n9, q.1 ∉ a.muts → q ∈ Y5 := fun q hq hn => hs5 q (J.hs q hq hn) hn
        clear F3 N3 hS hs5
        refine hushL ?_
        intro hG
        obtain ⟨ow, tw, hmw, hdw⟩ := hM5.wd
        k_unfold
        clear hG
        replace hmw := List.mem_append_left own hmw
        dsimp only
        k_steps
        unfold Stop9
        refine sort_step hM5 (by omega) (by assumption) (by assumption) rfl (fun D1 h6 t6 ts cc F6 N6 hlt hts => ?_)
        have hts1 : ts.length = rs.length := by simpa using congrArg List.length hts
        dsimp only
        k_steps
        unfold Stop9
        rename Fr _ _ _ _ => F7
        rename News _ _ _ _ => N7
        refine len_idsL N7 hts1 (by omega) ?_
        dsimp only
        k_steps
        unfold Stop9
        replace N7 : News g L' _ (((D1, idsL ts cc) :: Y5) ++ own) := N7
        have hD1 : D1 ∉ a.muts := hM5.off D1 fun q hq => hlt q (List.mem_append_left _ hq)
        refine draw_step (Y := (D1, idsL ts cc) :: Y5) (hM5.to fun q hq => .tail _ hq) (hS5.cons fun q hq => hlt q (List.mem_append_right _ hq)) B F7 X N7 T rfl (by omega) (by omega) (by omega) (fun Y6 h6 t6 i4 tk6 hi4 hM6 hS6 hs6 F6 N6 => ?_)
        have hi5 : i4 < rs.length := by omega
        obtain ⟨t0, ht0⟩ := ids_at hts hi5
        have hr := List.getElem_mem hi5
        generalize rs[i4] = r at ht0 hr
        have hl6 := hs6 (D1, idsL ts cc) (.head _) hD1
        have hP6 := hP5.to (S := a.muts) (fun _ h => h) (fun q hq hn => hs6 q (.tail _ hq) hn)
        replace hs6 : ∀ q ∈ n9, q.1 ∉ a.muts → q ∈ Y6 := fun q hq hn => hs6 q (.tail _ (hs0 q hq hn)) hn
        clear hM5 hS5 hP5 hs0 hmw hdw hlt F7 N7
        dsimp only
        k_steps
        unfold Stop9
        rename Fr _ _ _ _ => F7
        rename News _ _ _ _ => N7
        refine item_listR (N7.isList (List.mem_append_left _ hl6)) (by omega) (by omega) ht0 ?_
        clear hl6 ht0 hts hts1 hi4 hi5
        k_steps
        unfold Stop9
        rename_i κ h4 F4 N4 l4
        obtain ⟨tkx, N4⟩ : ∃ t, News g L' h4 (((κ, tup2 (.bytes #[116, 97, 103] t) (.bytes (idA r.n) t0)) :: Y6) ++ own) := ⟨_, N4⟩
        have hκ := hM6.off κ (fun q hq => l4 q (List.mem_append_left _ hq))
        replace hS6 := hS6.cons (o := tup2 (.bytes #[116, 97, 103] tkx) (.bytes (idA r.n) t0)) (fun q hq => l4 q (List.mem_append_right _ hq))
        replace hM6 := hM6.to (n' := (κ, tup2 (.bytes #[116, 97, 103] tkx) (.bytes (idA r.n) t0)) :: Y6) (fun q hq => .tail _ hq)
        replace hP6 := hP6.to (S := []) (news' := (κ, tup2 (.bytes #[116, 97, 103] tkx) (.bytes (idA r.n) t0)) :: Y6) (by simp) (fun q hq _ => .tail _ hq)
        replace hs6 : ∀ q ∈ n9, q.1 ∉ a.muts → q ∈ ((κ, tup2 (.bytes #[116, 97, 103] tkx) (.bytes (idA r.n) t0)) :: Y6 : Led) := fun q hq hn => .tail _ (hs6 q hq hn)
        have hκ6 : (κ, tup2 (.bytes #[116, 97, 103] tkx) (.bytes (idA r.n) t0)) ∈ ((κ, tup2 (.bytes #[116, 97, 103] tkx) (.bytes (idA r.n) t0)) :: Y6 : Led) := .head _
        generalize hY : ((κ, tup2 (.bytes #[116, 97, 103] tkx) (.bytes (idA r.n) t0)) :: Y6 : Led) = Y at N4 hS6 hM6 hP6 hs6 hκ6
        clear hY l4
        refine hushL ?_
        intro hG
        obtain ⟨ow, tw, hmw, hdw⟩ := hM6.wd
        k_unfold
        clear hG
        replace hmw := List.mem_append_left own hmw
        refine hushL ?_
        intro hG
        obtain ⟨⟨m1, hq1⟩, hz1, t4, hz2, t7, n, m2, hq2⟩ := hM6.fr.st
        k_unfold
        clear hG
        replace m1 := List.mem_append_left own m1
        replace m2 := List.mem_append_left own m2
        dsimp only
        k_steps
        unfold Stop9
        refine hushL ?_
        intro hG
        obtain ⟨ok, hmk, hdk⟩ := hM6.known.1
        k_unfold
        clear hG
        rename News _ _ _ _ => N5
        refine item_at N5 (List.mem_append_left own hmk) hdk (keyB _ _) (hM6.ok.val (fun r => .ref r.κ) hr) ?_
        refine hushL ?_
        intro hG
        obtain ⟨tb, gv, ⟨mτ, _⟩, _⟩ := hM6.known.2 r hr
        k_unfold
        clear hG
        dsimp only
        k_steps
        unfold Stop9
        rename News _ _ _ _ => N5
        refine item_tupleT (l := [.bytes (byK r.k) tb, gv]) (j := 0) ⟨_, (N5 _ (List.mem_append_left own mτ)).1, rfl, _, rfl⟩ (by decide) (by decide) rfl rfl ?_
        clear mτ hmk
        dsimp only
        k_steps
        unfold Stop9
        rename_i bl _ _ _ _ _ F9 N9 _ _ _
        refine' Spec.use (tag_new c _ a.muts r.n r.k p dpp _ _ _ _ _ ?q1 ?q2) ?sB ?sF ?sX ?sN ?sT ?sk ?sd ?su ?_
        ((case sB => assumption); (case sF => assumption); (case sX => assumption); (case sN => assumption); (case sT => assumption); (case sk => first | rfl | assumption); (case sd => (first | (refine' room9 ?rh ?rk; (case rh => assumption); (case rk => rfl)) | (refine' room1 ?rh ?rk; (case rh => assumption); (case rk => rfl)) | omega)); (case su => (first | (refine' room9 ?rh ?rk; (case rh => assumption); (case rk => rfl)) | (refine' room1 ?rh ?rk; (case rh => assumption); (case rk => rfl)) | omega)))
        case q1 => exact fun D hD => hM6.off D fun q hq => hD q (.tail _ (List.mem_append_left _ hq))
        case q2 => exact hP6.to (S := []) (by simp) fun q hq _ => .tail _ (List.mem_append_left _ hq)
        intro v n8 h8 t8 hv8 hs8 F8 N8 K8
        refine hushL ?_
        intro hGG
        obtain ⟨hs7, tg, dc, rfl, hC, hlt⟩ := hv8
        k_unfold
        clear hGG
        have hmsg : (#[(97 + (0 + (j : Int) * 1)).toNat.toUInt8, (Int.toNat 10).toUInt8] : Array UInt8) = #[(97 + k.ng).toUInt8, 10] := by
          rw [show (97 + (0 + (j : Int) * 1)).toNat = 97 + k.ng from by omega]; rfl
        replace hC := (congrArg (TagIn n8 a.muts tg dc p dpp r.n r.k) hmsg).mp hC
        replace hs7 : ∀ q ∈ Y ++ own, q ∈ n8 := fun q hq => hs7 q (.tail _ hq)
        replace hlt : ∀ q ∈ Y ++ own, q.1 < tg ∧ q.1 < dc := fun q hq => hlt q (.tail _ hq)
        have hM8 := hM6.to (n' := n8) (fun q hq => hs7 q (List.mem_append_left _ hq))
        clear N9 F9 m1 m2 hmw hs8 K8 hdk
        dsimp only
        k_steps
        unfold Stop9
        refine' Spec.use (wtag_spec c a (cnt + e) { k with gone := k.gone + e } tg dc p dpp r.n r.k _ (rs.map fun r => (idL r.n, .ref r.τ)) hM8.fr hM8.hash hM8.kept.1 (by omega) (hM8.fresh (by omega) _) (by rw [List.length_map]; omega) (by show k.ng ≤ 10; omega) hC) ?sB ?sF ?sX ?sN ?sT ?sk ?sd ?su ?_
        ((case sB => assumption); (case sF => assumption); (case sX => assumption); (case sN => assumption); (case sT => assumption); (case sk => first | rfl | assumption); (case sd => (first | (refine' room9 ?rh ?rk; (case rh => assumption); (case rk => rfl)) | (refine' room1 ?rh ?rk; (case rh => assumption); (case rk => rfl)) | omega)); (case su => (first | (refine' room9 ?rh ?rk; (case rh => assumption); (case rk => rfl)) | (refine' room1 ?rh ?rk; (case rh => assumption); (case rk => rfl)) | omega)))
        intro v n7 h7 t7 hW7 hs9 F7 N7 K7
        refine hushL ?_
        intro hG
        obtain ⟨Y7, hW, hk7, hS7, N7, hin7⟩ := wrote_side hM6 hS6 (fun q hq => hs7 q (List.mem_append_right _ hq)) (fun q hq hn => hs9 q (hs7 q hq) hn) N7 hW7
        k_unfold
        clear hG
        clear hW7 N8 F8 K7
        have hnS : ∀ x, x ∉ a.muts → x ∉ [a.kn, a.kp] := fun x hx e => hx (by simp at e; rcases e with e | e <;> simp [e, Ads.muts])
        refine put_side (kd := 3) (goal := some r.n) hM6 hS7 (by decide) F7 N7 hW hk7 ⟨hk7 _ hκ6 (hnS _ hκ), hκ⟩ ⟨t0, rfl⟩
          (hC.lift (fun o hm h => hin7 _ (hs9 _ h (hnS _ hm)) (hS6.fresh _ fun q hq => (hlt q (List.mem_append_right _ hq)).1)) (fun o hm h => hin7 _ (hs9 _ h (hnS _ hm)) (hS6.fresh _ fun q hq => (hlt q (List.mem_append_right _ hq)).2)))
          rfl (by omega) (by omega) (fun g' e' => by cases e'; exact ⟨r, hr, rfl, fun e => absurd e (by decide)⟩) (fun h6 Y9 τ F6 N6 hS9 hs8 hM9 => ?_)
        clear F7 N7
        dsimp only
        k_steps
        refine hQT _ _ _ _ Y9 F6 N6 (fun q hq => List.mem_append_left _ hq) (fun q hq => List.mem_append_right _ hq) hS9.all ⟨_, _, _, hM9, ?_, ?_, ?_, ?_, ?_, ?_, ?_⟩
        · exact hP6.to (S := a.muts) (fun _ h => h) (fun q hq hn => hs8 q (hk7 q hq (hnS _ hn)) hn)
        · rw [List.length_append, List.length_singleton]; omega
        · show k.ng + 1 = j + 1; omega
        · show k.gone + e ≤ _; omega
        · omega
        · exact fun q hq hn => hs8 q (hk7 q (hs6 q hq hn) (hnS _ hn)) hn
        · intro z hz hz1 hz2
          simp only [if_neg hz, if_neg hz1, if_neg hz2, hM2]
      · intro m₁ nx h tk hJ F4 N4
        refine hushL ?_
        intro hG
        obtain ⟨cnt, k, rs, J⟩ := hJ
        k_unfold
        clear hG
        have hJl := J.hl
        show wpR _ _ (execs [] _) _ _
        exact wpR_execs_nil (hQ9 _ _ ⟨_, nx, F4, N4, fun q hq hn => J.hs q (hs8 q hq) hn, ⟨rfl, cnt, k, rs, J.hM, by omega⟩, rfl, rfl, rfl⟩)
end J_M1
example : True := by
  k_with_none
  (k_with "call ref" => refine stop_ref rfl ?_)
  (k_with "eval ListComp" => with_reducible refine stopP0 ?_)
  (k_with "exec For" => with_reducible refine stopP1 ?_)
  (k_with "exec Assign cons ListComp" => with_reducible refine stopP2 ?_)
  (k_with "call type:bytes" => (with_reducible show wpAny _ _ (call (Value.type "bytes") [Value.bytes _ _]) _ _ _; refine bytes_bytes ?_))
  (k_with "subscriptTail" => (with_reducible show wpAny _ _ (subscriptTail _ _ (Value.ref _) (Value.str _ _)) _ _ _; refine' kda_item (knd := PySem.strKind _ _) ?iN ?im ?ih (strKind_is _ _ _ _) ?iv ?_; (case iN => assumption); (case im => assumption); (case ih => assumption); (case iv => with_unfolding_all rfl)))
  (k_with "binaryOp Add bytes bytes" => ((with_reducible show wpAny _ _ (binaryOp Operator.Add (Value.bytes _ _) (Value.bytes _ _)) _ _ _); (refine KBy.add_bytes (by first | assumption | ((try simp only [Array.size_append, List.size_toArray, List.length_cons, List.length_nil]); omega)) ?_); intro _ _))
  (k_with "call builtin:len" => ((with_reducible show wpAny _ _ (call (Value.builtin "len") [Value.bytes _ _]) _ _ _); (refine len_bytes (by first | assumption | omega) ?_)))
  trivial
example {M : Model} {A : Around} {Q : Unit → Shared → Prop} {E : Value → Shared → Prop} {s : Shared} : wpAny M A (pure ()) Q E s ∨ True := by w_top off; first | (left; walk1; done) | (right; trivial)
section J_U0
open Builtin Builtin.Str in
theorem slice_idx (n len : Nat) : strSliceIndices none (some (n : Int)) 1 len = strSliceIndices (some ((0 : Nat) : Int)) (some ((min n len : Nat) : Int)) 1 len := by
  have h1 : ¬ ((n : Int) < 0) := by omega
  have h2 : ¬ (((min n len : Nat) : Int) < 0) := by omega
  have h3 : ¬ (((0 : Nat) : Int) < 0) := by omega
  have e1 : max (0 : Int) (min (n : Int) (len : Int)) = ((min n len : Nat) : Int) := by omega
  have e2 : max (0 : Int) (min ((min n len : Nat) : Int) (len : Int)) = ((min n len : Nat) : Int) := by omega
  have e3 : max (0 : Int) (min ((0 : Nat) : Int) (len : Int)) = 0 := by omega
  simp only [strSliceIndices, h1, h2, h3, if_false, e1, e2, e3, show ((1 : Int) > 0) = True from by simp, if_true]
theorem slice_take (x : Str) (n : Nat) : Txt.slice x none (some (n : Int)) = ⟨(x.cps.toList.take n).toArray⟩ := by
  have hl : x.length = x.cps.toList.length := by rw [Array.length_toList]; rfl
  have hidx := slice_idx n x.length
  have hp := StrLaws.sliced_plain x (a := 0) (b := min n x.length) (Nat.zero_le _) (Nat.min_le_right _ _)
  rw [← hidx] at hp
  have ht : (x.cps.toList.drop 0).take (min n x.length - 0) = x.cps.toList.take n := by
    rw [List.drop_zero, Nat.sub_zero, hl]
    by_cases h : n ≤ x.cps.toList.length
    · rw [Nat.min_eq_left h]
    · rw [Nat.min_eq_right (by omega), List.take_length, List.take_of_length_le (by omega)]
  rw [ht] at hp
  unfold Txt.slice
  rw [hp]
  split
  · rename_i h
    have h9 : (Builtin.Str.strSliceIndices none (some (n : Int)) 1 x.length).length = x.length := by simpa using h
    rw [hidx, StrLaws.strSliceIndices_plain (Nat.zero_le _) (Nat.min_le_right _ _), List.length_map, List.length_range, Nat.sub_zero] at h9
    have hn : x.cps.toList.length ≤ n := by rw [← hl]; omega
    rw [List.take_of_length_le hn]
  · rfl
theorem slice_head {prog : Program} {w : World} {A : Around} {E : Value → Shared → Prop} {s : Shared} {x : Str} {t uj : Tok} {n : Nat} {a : Addr} {value slice : PySem.Expr} {Q : Value → Shared → Prop} (hs : s.heap.IsSlice a none (some ((n : Int), uj)) none) (hx : x.length ≤ 1000) (h : ∀ t' k, Q (.str ⟨(x.cps.toList.take n).toArray⟩ t') { s with toks := k })
    (he : subscripted slice false (.str x t) (.ref a) = operate [.str x t, .ref a] (getItem (.str x t) (.ref a)) := by with_unfolding_all rfl) :
    wpAny (model prog w) A (subscriptTail value slice (.str x t) (.ref a)) Q E s :=
  tail_any (T := "str") (typeIs_str _ _ _) F.slot_str_getitem.lookup (wpAny_getItem_str_slice (l := none) (u := some ((n : Int), uj)) (st := none) hs rfl
    (post_val_or_str ⟨Nat.le_trans (Txt.slice_le x none (some (n : Int))) (by rw [sizeLine_eq]; omega), fun t' k => by
      have := h t' k
      rw [← slice_take] at this
      exact this⟩)) he
end J_U0
example {M : Model} {A : Around} {Q : Unit → Shared → Prop} {E : Value → Shared → Prop} {s : Shared} : wpAny M A (pure ()) Q E s ∨ True := by w_top off; first | (left; walk1; done) | (right; trivial)
section J_U1
example : True := by
  (k_with "exec If" => with_reducible refine stopP18 ?_)
  (k_with "call builtin:len" => with_reducible refine stopP19 ?_)
  (k_with "compareOp Eq" => with_reducible refine stopP14 ?_)
  (k_with "subscriptTail" => with_reducible refine stopP20 ?_)
  (k_with "call builtin:len" => with_reducible refine stopP6 ?_)
  (k_with "call builtin:sorted" => with_reducible refine stopP11 ?_)
  (k_with "call builtin:str.join" => with_reducible refine stopP21 ?_)
  (k_with "subscriptTail" => with_reducible refine stopP8 ?_)
  (k_with "subscriptTail" => ((with_reducible show wpAny _ _ (subscriptTail _ _ (Value.ref _) (Value.str _ _)) _ _ _); first | (refine' kda_item (knd := PySem.strKind _ _) ?iN ?im ?ih (strKind_is _ _ _ _) ?iv ?_; (case iN => assumption); (case im => assumption); (case ih => assumption); (case iv => with_unfolding_all rfl)) | (plain_pass; refine stop9 ?_)))
  trivial
noncomputable def upC (c : Nat) : Nat := if 65 ≤ c ∧ c ≤ 70 then c + 32 else c
noncomputable def downC (c : Nat) : Nat := if 97 ≤ c ∧ c ≤ 102 then c - 32 else c
noncomputable def mapS (f : Nat → Nat) (x : Str) : Str := ⟨x.cps.map f⟩
theorem paired_signs (l : List Nat) (vs : List Value) (as : List Nat) (hl : vs.length = l.length) (hP : ∀ (j : Nat) (v : Value), vs[j]? = some v → ∃ (c : Nat) (u : Tok), l[j]? = some c ∧ v = Value.str ⟨#[c]⟩ u)
    (r : Paired (fun v (c : Nat) => ∃ u, v = Value.str ⟨#[c]⟩ u) vs as) : as = l :=
  paired_eq (paired_walk (G := fun v (c : Nat) => ∃ u, v = Value.str ⟨#[c]⟩ u) (fun v a b ⟨u, e⟩ ⟨u', e'⟩ => by
    rw [e] at e'
    have := congrArg Array.toList (Str.mk.inj (Value.str.inj e').1)
    exact (List.cons.inj this).1) r hl fun j v h => by
      refine hushL ?_
      intro hGG
      obtain ⟨c, u, e, e'⟩ := hP j v h
      k_unfold
      clear hGG
      exact ⟨c, e, u, e'⟩)
theorem join_map {prog : Program} {w : World} {A : Around} {E : Value → Shared → Prop} {s : Shared} {Q : Value → Shared → Prop} {D : Addr} {ys : Array Value} {x : Str} {f : Nat → Nat} {vs : List Value} {t0 : Tok} (hl : s.heap.IsList D ys) (hx : x.cps.size ≤ 100) (hlen : vs.length = x.cps.size) (hP : ∀ j v, vs[j]? = some v → SignAt x j v)
    (hF : Paired (fun v y => ∃ (c : Nat) (t : Tok), (∃ u, v = Value.str ⟨#[c]⟩ u) ∧ y = Value.str ⟨#[f c]⟩ t) vs ys.toList) (h : ∀ t k, Q (.str (mapS f x) t) { s with toks := k }) :
    wpAny (model prog w) A (call (.builtin "str.join") [.str (Str.ofString "") t0, .ref D]) Q E s := by
  refine hushL ?_
  intro hG
  obtain ⟨as, l, e1, e2, hp⟩ := strs_of_paired (f := fun c : Nat => (⟨#[f c]⟩ : Str)) hF
  k_unfold
  clear hG
  have e3 := paired_signs x.cps.toList vs as (by simpa using hlen) (fun j v h => by simpa [SignAt] using hP j v h) hp
  subst e3
  refine SC.join (list_of hl e1) e2 (joinOk_small ?_) ?_
  · have h0 : (Str.ofString "").length = 0 := by decide +kernel
    rw [h0, Nat.mul_zero, Nat.add_zero, List.map_map]
    have : ((x.cps.toList.map ((fun x => x.length) ∘ fun c : Nat => ({ cps := #[f c] } : Str)))).sum = x.cps.toList.length := by
      generalize x.cps.toList = l
      induction l with
      | nil => rfl
      | cons c l ih => rw [List.map_cons, List.sum_cons, ih, List.length_cons]; show 1 + _ = _; omega
    rw [this, Array.length_toList]
    omega
  · intro t k
    rw [join_empty]
    have : catS (x.cps.toList.map fun c => (⟨#[f c]⟩ : Str)) = mapS f x := by
      unfold catS mapS
      apply Str.ext'
      have hfm : ∀ l : List Nat, l.flatMap (fun a => [f a]) = l.map f := fun l => by
        induction l with
        | nil => rfl
        | cons a l ih => rw [List.flatMap_cons, ih]; rfl
      show ((x.cps.toList.map fun c => (⟨#[f c]⟩ : Str)).flatMap fun x => x.cps.toList).toArray = x.cps.map f
      rw [List.flatMap_map]
      show (x.cps.toList.flatMap fun a => [f a]).toArray = _
      rw [hfm]
      exact Array.toList_inj.mp (by rw [Array.toList_map])
    rw [this]
    exact h t k
theorem lt1 {c d : Nat} : (([c] : List Nat) < [d]) = (c < d) := by simp [List.cons_lt_cons_iff]
theorem cpsA : (Str.ofString "A").cps.toList = [65] ∧ (Str.ofString "F").cps.toList = [70] ∧ (Str.ofString "a").cps.toList = [97] ∧ (Str.ofString "f").cps.toList = [102] := by decide +kernel
noncomputable def cutB (y : Str) (b : Array UInt8) : Bool := ((hexL b.toList).take y.cps.size == y.cps.toList)
noncomputable def cutV (y : Str) : Value → Bool
  | .bytes b _ => cutB y b
  | _ => false
theorem hexS_size (b : Array UInt8) : (hexS b).cps.size = 2 * b.size := by
  unfold hexS hexL
  rw [List.size_toArray, ← Array.length_toList]
  generalize b.toList = l
  induction l with
  | nil => rfl
  | cons a l ih => simp only [List.flatMap_cons, List.length_append, List.length_cons, List.length_nil, ih]; omega
theorem cut_eq (y : Str) (b : Array UInt8) : ((⟨((hexS b).cps.toList.take y.cps.size).toArray⟩ : Str) == y) = cutB y b := by
  unfold cutB
  rw [Bool.eq_iff_iff, beq_iff_eq, beq_iff_eq]
  have : (hexS b).cps.toList = hexL b.toList := by unfold hexS; simp
  rw [this]
  constructor
  · intro h
    have h9 := congrArg (fun z : Str => z.cps.toList) h
    simpa using h9
  · intro h
    apply Str.ext'
    show (List.take y.cps.size (hexL b.toList)).toArray = y.cps
    rw [h]
noncomputable def cutR (rs : List Rec) (x : Str) : List Rec := rs.filter fun r => cutB (mapS upC x) (idA r.n)
noncomputable def dueK (fb : Rec → Bool) (rs : List Rec) (x : Str) (kd : Option Nat) : List Rec := if kd.isSome && decide (1 < (cutR rs x).length) then (cutR rs x).filter fb else cutR rs x
noncomputable def IsDue (fb : Rec → Bool) (rs : List Rec) (x : Str) (kd : Option Nat) (v : Value) : Prop :=
  ((¬ (4 ≤ x.cps.size ∧ x.cps.size ≤ 8) ∨ cutR rs x = []) ∧ ∃ t, v = .str (Str.ofString "missing") t) ∨
  ((4 ≤ x.cps.size ∧ x.cps.size ≤ 8) ∧ cutR rs x ≠ [] ∧ ((∃ r t, dueK fb rs x kd = [r] ∧ v = .bytes (idA r.n) t) ∨ ((dueK fb rs x kd).length ≠ 1 ∧ ∃ t, v = .str (Str.ofString "several") t)))
theorem cutR_len (rs : List Rec) (x : Str) : (cutR rs x).length ≤ rs.length := List.length_filter_le _ _
theorem dueK_len (fb : Rec → Bool) (rs : List Rec) (x : Str) (kd : Option Nat) : (dueK fb rs x kd).length ≤ rs.length := by
  unfold dueK
  split
  · exact Nat.le_trans (List.length_filter_le _ _) (cutR_len rs x)
  · exact cutR_len rs x
theorem cutR_sub (rs : List Rec) (x : Str) : ∀ r ∈ cutR rs x, r ∈ rs := fun r hr => (List.mem_filter.mp hr).1
/-- what holds behind the choice by the kind -/
noncomputable def DueJ (g : Heap) (L' : Addr) (M1 : Str → Option Value) (news : Led) (ks : List Rec) (s : Shared) (f : Flow) (s' : Shared) : Prop :=
  f = .next ∧ ∃ h' tk D ts k, s' = { s with heap := h', toks := tk } ∧ Fr g L' h' (fun z => if z = Str.ofString "some" then some (.ref D) else M1 z) ∧ News g L' h' ((D, idsL ts k) :: news) ∧ ts.map (fun p => p.1.toList) = ks.map fun r => idL r.n
theorem due_spec (c : Cx) (a : Ads) (cnt : Nat) (k : Cnt) (rs : List Rec) (x : Str) (t : Tok) (kd : Option Nat) (kv : Value) (fb : Rec → Bool) (news : Led) (hM : Made c.w news a cnt k rs) (h2 : 2 ≤ rs.length) (hx : x.cps.size ≤ 9) (hA : ∀ k ∈ x.cps.toList, k < 128) (hk : IsKind kd kv) (hf : ∀ k, kd = some k → ∀ r ∈ rs, Fits rs k r (fb r)) :
   Spec c 578 90 1200 [.ref a.wd, .str x t, kv] news [] (fun v n => (∀ p ∈ news, p ∈ n) ∧ IsDue fb rs x kd v) := by
  refine' enterC (binds := [(Str.ofString "w", .ref a.wd), (Str.ofString "text", .str x t), (Str.ofString "kind", kv)]) ?k6 ?k7 ?k9 ?kB ?kD ?c2 ?c3 ?c4 ?_
  ((case k6 => k_is); (case k7 => k_is); (case k9 => intro s9 X9; first | exact BindsTo.of_eq rfl | exact binds_K X9 rfl (by k_is) rfl rfl rfl); (case kB => exact rfl); (case kD => decide +kernel); (case c2 => exact rfl); (case c3 => exact rfl); (case c4 => exact rfl); skip)
  intro dp un gd outer A₀ base g L' h₁ tk s cells C hd9 hu9 Y hlt; obtain ⟨B, F, X, N, T, hk9⟩ := C
  obtain ⟨o1, o2, o3, hE, d1, d2, d3⟩ := CellsAre.three Y; subst hE; clear Y; (try simp only [List.cons_append, List.nil_append] at N); (try dsimp only); k_fold; (try (refine letA (P := fun A9 => wpAny _ A9 _ _ _ _) _ ?_; intro A9))
  replace d1 : o1.data = .cell none := d1
  replace d2 : o2.data = .cell (some kv) := d2
  replace d3 : o3.data = .cell (some (.ref a.wd)) := d3
  replace F : Fr g L' h₁ (fun y => if y = Str.ofString "text" then some (.str x t) else none) := F
  k_steps
  unfold Stop9
  refine' comp_val (h₀ := g) (fun _ => true) (fun v y => ∃ (c : Nat) (t : Tok), (∃ u, v = Value.str ⟨#[c]⟩ u) ∧ y = Value.str ⟨#[upC c]⟩ t) ?hh ?h0 ?h1 ?h2 ?h3 ?h4 ?h9 ?h5
  case hh => rfl
  case h0 => rfl
  case h1 => decide
  case h2 => rfl
  case h3 => decide
  case h4 => rfl
  case h5 => intro _; rfl
  refine nameX_L F rfl ?_
  refine ⟨_, _, _, _, _, F, N, src_str x t, by omega, testsOf_nil, ?_, ?_⟩
  · intro C i v s₃ m₃ zy34 hn hm hC F3 N3 hk3
    refine hushL ?_
    intro hGG
    obtain ⟨⟨ch, u, hc, rfl⟩, _⟩ := zy34
    k_unfold
    clear hGG
    have h128 := hA ch (by simpa using Array.mem_of_getElem? hc)
    refine stopEnd ?_
    k_steps
    · rename _ < (Str.ofString "A").cps.toList => h1
      rw [cpsA.1, lt1] at h1
      exact unstop ⟨⟨ch, u, ⟨u, rfl⟩, str1 (by unfold upC; rw [if_neg (by omega)]) rfl⟩, _, _, rfl, fun _ _ e => e⟩
    · rename (Str.ofString "F").cps.toList < _ => h1
      rw [cpsA.2.1, lt1] at h1
      exact unstop ⟨⟨ch, u, ⟨u, rfl⟩, str1 (by unfold upC; rw [if_neg (by omega)]) rfl⟩, _, _, rfl, fun _ _ e => e⟩
    · rename ¬ _ < (Str.ofString "A").cps.toList => h1
      rename ¬ (Str.ofString "F").cps.toList < _ => h2
      rw [cpsA.1, lt1] at h1
      rw [cpsA.2.1, lt1] at h2
      exact unstop ⟨⟨ch, _, ⟨u, rfl⟩, str1 (by unfold upC; rw [if_pos (by omega), show ((ch : Int) + 32).toNat = ch + 32 from by omega]) rfl⟩, _, _, rfl, fun _ _ e => e⟩
  · intro D h' tk ys ep vs F2 N2 hD hL hlen hP hF hk
    have hf9 : vs.filter (fun _ => true) = vs := by simp
    rw [hf9] at hF
    dsimp only at F2 N2 hL
    k_steps
    unfold Stop9
    refine join_map (N2.isList (.head _)) (by omega) hlen hP hF (fun t5 k5 => ?_)
    replace N2 := News.sub (news' := (L' + 1 + 1 + 1, o1) :: (L' + 1 + 1, o2) :: (L' + 1, o3) :: news) N2 (fun q hq => .tail _ hq)
    have hn3 : ∀ p ∈ news, p.1 ≠ L' + 1 + 1 + 1 := fun p hp => by have := hlt p hp; exact Nat.ne_of_lt (Nat.lt_of_lt_of_le this (by omega))
    clear F N hk hF hP hlen hD
    dsimp only
    k_steps
    unfold Stop9
    rename Fr _ _ _ _ => F1
    rename News _ _ _ _ => N1
    rename Obj => oc
    rename oc.data = _ => dc
    have hys : (mapS upC x).cps.size ≤ 9 := by unfold mapS; rw [Array.size_map]; exact hx
    generalize hy : mapS upC x = y at dc hys
    have hM1 := hM.to (n' := (L' + 1 + 1 + 1, oc) :: (L' + 1 + 1, o2) :: (L' + 1, o3) :: news) (fun q hq => .tail _ (.tail _ (.tail _ hq)))
    refine' comp_as (h₀ := g) (cutV y) (fun v z => ∃ b t t', v = Value.bytes b t ∧ z = Value.bytes b t') ?jh ?j0 ?j1 ?j2 ?j3 ?j4 ?j5 ?j6 ?j7 ?j8 ?j9
    case jh => rfl
    case j0 => rfl
    case j1 => rfl
    case j2 => decide
    case j3 => rfl
    case j4 => decide
    case j5 => rfl
    case j6 => rfl
    case j7 => rfl
    case j9 => intro _; rfl
    refine hushL ?_
    intro hG
    obtain ⟨ow, tw, hmw, hdw⟩ := hM1.wd
    k_unfold
    clear hG
    k_steps
    unfold Stop9
    rename Fr _ _ _ _ => F2
    rename News _ _ _ _ => N2
    refine sort_step (own := []) hM1 h2 F2 (by rw [List.append_nil]; exact N2) rfl (fun D1 h6 t6 ts cc F6 N6 hlt1 hts => ?_)
    rw [List.append_nil] at N6 hlt1
    have hl20 := hM.ok.len
    have hl9 : ts.length = rs.length := by simpa using congrArg List.length hts
    refine ⟨_, _, _, _, _, F6, N6, src_list (N6.isList (.head _)), by simp only [List.size_toArray, List.length_map]; omega, ?_, ?_, ?_⟩
    · rintro C i v s₃ m₃ hv hn hm hC F3 N3 hk3
      refine stopEnd ?_
      refine testsOf_one ?_
      refine hushL ?_
      intro hGG
      obtain ⟨b9, t9, rfl, hb9⟩ := ids_item hts hv
      k_unfold
      clear hGG
      k_steps
      unfold Stop9
      dsimp only at F3 N3
      refine' Spec.use (told_spec c b9 t9 _ (by omega)) ?sB ?sF ?sX ?sN ?sT ?sk ?sd ?su ?_
      ((case sB => assumption); (case sF => assumption); (case sX => assumption); (case sN => assumption); (case sT => assumption); (case sk => first | rfl | assumption); (case sd => (first | (refine' room9 ?rh ?rk; (case rh => assumption); (case rk => rfl)) | (refine' room1 ?rh ?rk; (case rh => assumption); (case rk => rfl)) | omega)); (case su => (first | (refine' room9 ?rh ?rk; (case rh => assumption); (case rk => rfl)) | (refine' room1 ?rh ?rk; (case rh => assumption); (case rk => rfl)) | omega)))
      intro v n8 h8 t8 hv8 hs8 F8 N8 K8
      obtain ⟨rfl, th, rfl⟩ := hv8
      have hn8 : h8.Ns C m₃ := by
        refine hushL ?_
        intro hG
        obtain ⟨o9, es9, ep9, q1, q2⟩ := hn
        k_unfold
        clear hG
        exact ⟨o9, es9, ep9, K8 _ _ q1 (by simp), q2⟩
      k_steps
      unfold Stop9
      refine len_str (by show ¬ ((y.cps.size : Int) ≥ 2 ^ 63); omega) ?_
      k_steps
      unfold Stop9
      refine slice_head (n := y.cps.size) ⟨_, Heap.get?_push_size _ rfl, rfl, rfl⟩ (by show (hexS b9).cps.size ≤ 1000; rw [hexS_size]; omega) (fun t7 k7 => ?_)
      replace F8 := F8.push { cls := .type "slice", data := .fields #[.none, .int (y.cps.size : Int) (t8 + 1), .none] }
      replace N8 : News g L' (h8.push { cls := .type "slice", data := .fields #[.none, .int (y.cps.size : Int) (t8 + 1), .none] }) _ := fun q hq => ⟨Heap.get?_push_of_some _ (N8 q hq).1, (N8 q hq).2⟩
      have hn7 : (h8.push { cls := .type "slice", data := .fields #[.none, .int (y.cps.size : Int) (t8 + 1), .none] }).Ns C m₃ := by
        refine hushL ?_
        intro hG
        obtain ⟨o9, es9, ep9, q1, q2⟩ := hn8
        k_unfold
        clear hG
        exact ⟨o9, es9, ep9, Heap.get?_push_of_some _ q1, q2⟩
      dsimp only
      k_steps
      exact unstop ⟨cut_eq y b9, _, _, rfl, fun b o e => Heap.get?_push_of_some _ (K8 b o e (by simp))⟩
    · intro C i v s₃ m₃ zz8 hn hm hC F3 N3 hk3
      refine hushL ?_
      intro hG
      obtain ⟨hv, hv2⟩ := zz8
      k_unfold
      clear hG
      refine stopEnd ?_
      k_steps
      refine hushL ?_
      intro hGG
      obtain ⟨b9, t9, rfl, hb9⟩ := ids_item hts hv
      k_unfold
      clear hGG
      exact unstop ⟨⟨_, _, _, rfl, rfl⟩, _, _, rfl, fun _ _ e => e⟩
    · intro D h' tk ys ep vs F2 N2 hD hL hlen hP hF hk
      have hvs : vs = ts.map fun p => Value.bytes p.1 p.2 := by
        refine List.ext_getElem? fun j => ?_
        by_cases hj : j < vs.length
        · rw [← List.getElem?_toArray (xs := ts.map _), hP j vs[j] (List.getElem?_eq_getElem hj), List.getElem?_eq_getElem hj]
        · rw [List.getElem?_eq_none (by omega), List.getElem?_eq_none (by rw [hlen] at hj; simpa using hj)]
      refine hushL ?_
      intro hG
      obtain ⟨ts', e1, e2⟩ := paired_bytesT hF
      k_unfold
      clear hG
      have e3 : listOf ys ep = idsL ts' ep := by unfold idsL; rw [← e1]
      have hts' : ts'.map (fun p => p.1.toList) = (rs.filter fun r => cutB y (idA r.n)).map fun r => idL r.n := by
        rw [e2, hvs, List.filter_map, List.map_map, show (fun r : Rec => cutB y (idA r.n)) = (fun l : List UInt8 => cutB y l.toArray) ∘ (fun r : Rec => idL r.n) from rfl, ← List.filter_map, ← hts, List.filter_map]
        rfl
      rw [e3] at N2
      clear hF hP hvs e2 e1 e3 hk hD F6 N6
      replace N2 : News g L' h' ((D, idsL ts' ep) :: (L' + 1 + 1 + 1, oc) :: (L' + 1 + 1, o2) :: (L' + 1, o3) :: news) := News.sub N2 fun q hq => by
        rcases List.mem_cons.mp hq with rfl | hq
        · exact .head _
        · exact .tail _ (.tail _ hq)
      (try dsimp only at F2)
      k_steps
      unfold Stop9
      refine len_str (by show ¬ ((x.cps.size : Int) ≥ 2 ^ 63); omega) ?_
      k_steps
      · unfold Stop9
        rename News _ _ _ _ => N4
        rename Fr _ _ _ _ => F4
        rename (4 : Int) ≤ _ => hn4
        rename _ ≤ (8 : Int) => hn8
        have hin : 4 ≤ x.cps.size ∧ x.cps.size ≤ 8 := ⟨by have : (4 : Int) ≤ (x.cps.size : Int) := hn4; omega, by have : (x.cps.size : Int) ≤ 8 := hn8; omega⟩
        have hcut : (rs.filter fun r => cutB y (idA r.n)) = cutR rs x := by unfold cutR; rw [hy]
        rw [hcut] at hts'
        have hlen2 : ts'.length = (cutR rs x).length := by simpa using congrArg List.length hts'
        by_cases hh : cutR rs x = []
        · have ht0 : ts' = [] := List.eq_nil_of_length_eq_zero (by rw [hlen2, hh]; rfl)
          subst ht0
          refine PySem.SeqAt.RcAt.lists (e := fun _ => true) (N4.isList (.tail _ (.head _))) (N4.isList (.head _)) rfl (by show un < cLine; omega) (fun j h1 _ => absurd h1 (by simp)) _ _ _ _ ?_
          k_steps
          exact ⟨_, _, F4, N4, fun p hp _ => .tail _ (.tail _ (.tail _ (.tail _ (.tail _ hp)))), ⟨fun p hp => .tail _ (.tail _ (.tail _ (.tail _ (.tail _ hp)))), .inl ⟨.inr hh, _, rfl⟩⟩, rfl, rfl, rfl⟩
        · have hpos : 0 < ts'.length := by rw [hlen2]; exact List.length_pos_iff.mpr hh
          refine PySem.SeqAt.RcAt.lists_lengths (N4.isList (.tail _ (.head _))) (N4.isList (.head _)) (by simp; intro e; subst e; simp at hpos) (by show un < cLine; omega) _ _ _ _ ?_
          k_steps
          unfold Stop9
          replace N4 : News g L' _ ((D, idsL ts' ep) :: (L' + 1 + 1 + 1, oc) :: (L' + 1 + 1, o2) :: (L' + 1, o3) :: news) := News.sub N4 (fun p hp => .tail _ hp)
          refine hushL ?_
          intro hG
          obtain ⟨M1, hM1', F4⟩ := fr_some F4
          k_unfold
          clear hG
          refine wpAny_mono (Q := DueJ g L' M1 ((L' + 1 + 1 + 1, oc) :: (L' + 1 + 1, o2) :: (L' + 1, o3) :: news) (dueK fb rs x kd) s) ?_ (fun f s' hJ => ?_) (fun _ _ e => e)
          · have hc20 := cutR_len rs x
            cases hkd : kd with
            | none =>
              subst hkd
              obtain rfl : kv = .none := hk
              refine wpAny_If ?_
              k_steps
              unfold Stop9
              unfold idsL at N4
              refine KM.len_K (n := ts'.length) N4 (.head _) (by simp) (by omega) ?_
              k_steps
              · subst hM1'
                exact ⟨rfl, _, _, D, ts', ep, rfl, F4, N4, by rw [hts']; rfl⟩
              · subst hM1'
                exact ⟨rfl, _, _, D, ts', ep, rfl, F4, N4, by rw [hts']; rfl⟩
            | some kk =>
              subst hkd
              obtain ⟨hk4, tk2, rfl⟩ := hk
              refine wpAny_If ?_
              k_steps
              unfold Stop9
              unfold idsL at N4
              refine KM.len_K (n := ts'.length) N4 (.head _) (by simp) (by omega) ?_
              k_steps
              · unfold Stop9
                subst hM1'
                have hlt1 : 1 < ts'.length := by omega
                refine' comp_as (h₀ := g) (ppV rs fb) (fun v z => ∃ b t t', v = Value.bytes b t ∧ z = Value.bytes b t') ?lh ?l0 ?l1 ?l2 ?l3 ?l4 ?l5 ?l6 ?l7 ?l8 ?l9
                case lh => rfl
                case l0 => rfl
                case l1 => rfl
                case l2 => decide
                case l3 => rfl
                case l4 => decide
                case l5 => rfl
                case l6 => rfl
                case l7 => rfl
                case l9 => intro _; rfl
                refine nameX_L F4 rfl ?_
                refine ⟨_, _, _, _, _, F4, N4, src_list (N4.isList (.head _)), by simp only [List.size_toArray, List.length_map]; omega, ?_, ?_, ?_⟩
                · rintro C i v s₃ m₃ hv hn hm hC F3 N3 hk3
                  refine stopEnd ?_
                  refine testsOf_one ?_
                  obtain ⟨r, tb, hr, rfl⟩ := ids_mem hts' (v := v) (by rw [List.toList_toArray]; simpa using Array.mem_of_getElem? hv)
                  have hrr := cutR_sub rs x r hr
                  k_steps
                  unfold Stop9
                  dsimp only at F3 N3
                  have hM4 := hM.to (n' := (D, idsL ts' ep) :: (L' + 1 + 1 + 1, oc) :: (L' + 1 + 1, o2) :: (L' + 1, o3) :: news) (fun q hq => .tail _ (.tail _ (.tail _ (.tail _ hq))))
                  refine' Spec.use (fits_spec c a rs k.gone kk hk4 21 r tb tk2 (fb r) _ hM4.fr hM4.ok hM4.known hM4.wd hrr (by have : rankR rs r ≤ rs.length := List.length_filter_le _ _; omega) (hf kk rfl r hrr)) ?sB ?sF ?sX ?sN ?sT ?sk ?sd ?su ?_
                  ((case sB => assumption); (case sF => assumption); (case sX => assumption); (case sN => assumption); (case sT => assumption); (case sk => first | rfl | assumption); (case sd => (first | (refine' room9 ?rh ?rk; (case rh => assumption); (case rk => rfl)) | (refine' room1 ?rh ?rk; (case rh => assumption); (case rk => rfl)) | omega)); (case su => (first | (refine' room9 ?rh ?rk; (case rh => assumption); (case rk => rfl)) | (refine' room1 ?rh ?rk; (case rh => assumption); (case rk => rfl)) | omega)))
                  intro v n8 h8 t8 hv8 hs8 F8 N8 K8
                  obtain ⟨hs7, rfl⟩ := hv8
                  k_steps
                  exact unstop ⟨(ppB_id hM.ok fb hrr).symm, _, _, rfl, fun b o e => K8 b o e (by simp)⟩
                · intro C i v s₃ m₃ zz9 hn hm hC F3 N3 hk3
                  refine hushL ?_
                  intro hG
                  obtain ⟨hv, hv2⟩ := zz9
                  k_unfold
                  clear hG
                  refine stopEnd ?_
                  k_steps
                  obtain ⟨r, tb, hr, rfl⟩ := ids_mem hts' (v := v) (by rw [List.toList_toArray]; simpa using Array.mem_of_getElem? hv)
                  exact unstop ⟨⟨_, _, _, rfl, rfl⟩, _, _, rfl, fun _ _ e => e⟩
                · intro D2 h2' tk' ys2 ep2 vs2 F5 N5 hD hL2 hlen3 hP hF hk
                  have hvs : vs2 = ts'.map fun p => Value.bytes p.1 p.2 := by
                    refine List.ext_getElem? fun j => ?_
                    by_cases hj : j < vs2.length
                    · rw [← List.getElem?_toArray (xs := ts'.map _), hP j vs2[j] (List.getElem?_eq_getElem hj), List.getElem?_eq_getElem hj]
                    · rw [List.getElem?_eq_none (by omega), List.getElem?_eq_none (by rw [hlen3] at hj; simpa using hj)]
                  refine hushL ?_
                  intro hG
                  obtain ⟨ts2, e1, e2⟩ := paired_bytesT hF
                  k_unfold
                  clear hG
                  have e3 : listOf ys2 ep2 = idsL ts2 ep2 := by unfold idsL; rw [← e1]
                  rw [e3] at N5
                  have hts2 : ts2.map (fun p => p.1.toList) = (dueK fb rs x (some kk)).map fun r => idL r.n := by
                    unfold dueK
                    rw [if_pos (by simp; omega), ← ts_filter hM.ok fb (cutR_sub rs x) hts', e2, hvs, List.filter_map, List.map_map]
                    rfl
                  refine wpAny_execs_nil ?_
                  refine ⟨rfl, h2', tk', D2, ts2, ep2, rfl, fr_eq F5 ?_, News.sub N5 (fun q hq => ?_), hts2⟩
                  · funext z
                    by_cases hz : z = Str.ofString "some"
                    · simp only [if_pos hz]
                    · simp only [if_neg hz]
                  · rcases List.mem_cons.mp hq with rfl | hq
                    · exact .head _
                    · exact .tail _ (.tail _ hq)
              · subst hM1'
                refine ⟨rfl, _, _, D, ts', ep, rfl, F4, N4, ?_⟩
                rw [hts']
                unfold dueK
                rw [if_neg (by simp; omega)]
          · refine hushL ?_
            intro hGG
            obtain ⟨rfl, h', tk, D3, ts3, k3, rfl, F3, N3, hts3⟩ := hJ
            k_unfold
            clear hGG
            subst hM1'
            clear N4 F4
            have hd20 := dueK_len fb rs x kd
            have hl3 : ts3.length = (dueK fb rs x kd).length := by simpa using congrArg List.length hts3
            unfold idsL at N3
            dsimp only
            k_steps
            unfold Stop9
            refine KM.len_K (n := ts3.length) N3 (.head _) (by simp) (by omega) ?_
            k_steps
            · unfold Stop9
              obtain ⟨r, hr⟩ : ∃ r, dueK fb rs x kd = [r] := List.length_eq_one_iff.mp (by omega)
              rw [hr] at hts3
              obtain ⟨b9, tb9, rfl, hb9⟩ : ∃ b t, ts3 = [(b, t)] ∧ b.toList = idL r.n := by
                cases ts3 with
                | nil => simp at hts3
                | cons p tl => cases tl with
                  | nil => exact ⟨p.1, p.2, rfl, by simpa using hts3⟩
                  | cons q tl => simp at hts3
              obtain rfl : b9 = idA r.n := by
                cases b9; exact congrArg Array.mk hb9
              refine item_listR (N3.isList (.head _)) (by decide) (by decide) rfl ?_
              exact ⟨_, _, F3, N3, fun p hp _ => .tail _ (.tail _ (.tail _ (.tail _ hp))), ⟨fun p hp => .tail _ (.tail _ (.tail _ (.tail _ hp))), .inr ⟨hin, hh, .inl ⟨r, tb9, hr, rfl⟩⟩⟩, rfl, rfl, rfl⟩
            · exact ⟨_, _, F3, N3, fun p hp _ => .tail _ (.tail _ (.tail _ (.tail _ hp))), ⟨fun p hp => .tail _ (.tail _ (.tail _ (.tail _ hp))), .inr ⟨hin, hh, .inr ⟨by omega, _, rfl⟩⟩⟩, rfl, rfl, rfl⟩
      · exact ⟨_, _, by assumption, by assumption, fun p hp _ => .tail _ (.tail _ (.tail _ (.tail _ hp))), ⟨fun p hp => .tail _ (.tail _ (.tail _ (.tail _ hp))), .inl ⟨.inl (fun h => by rename ¬ _ ≤ (8 : Int) => hn8; exact hn8 (by show (x.cps.size : Int) ≤ 8; omega)), _, rfl⟩⟩, rfl, rfl, rfl⟩
      · exact ⟨_, _, by assumption, by assumption, fun p hp _ => .tail _ (.tail _ (.tail _ (.tail _ hp))), ⟨fun p hp => .tail _ (.tail _ (.tail _ (.tail _ hp))), .inl ⟨.inl (fun h => by rename ¬ (4 : Int) ≤ _ => hn4; exact hn4 (by show (4 : Int) ≤ (x.cps.size : Int); omega)), _, rfl⟩⟩, rfl, rfl, rfl⟩
end J_U1
example : True := by
  k_with_none
  (k_with "call ref" => refine stop_ref rfl ?_)
  (k_with "eval ListComp" => with_reducible refine stopP0 ?_)
  (k_with "exec For" => with_reducible refine stopP1 ?_)
  (k_with "exec Assign cons ListComp" => with_reducible refine stopP2 ?_)
  (k_with "call type:bytes" => (with_reducible show wpAny _ _ (call (Value.type "bytes") [Value.bytes _ _]) _ _ _; refine bytes_bytes ?_))
  (k_with "subscriptTail" => (with_reducible show wpAny _ _ (subscriptTail _ _ (Value.ref _) (Value.str _ _)) _ _ _; refine' kda_item (knd := PySem.strKind _ _) ?iN ?im ?ih (strKind_is _ _ _ _) ?iv ?_; (case iN => assumption); (case im => assumption); (case ih => assumption); (case iv => with_unfolding_all rfl)))
  (k_with "binaryOp Add bytes bytes" => ((with_reducible show wpAny _ _ (binaryOp Operator.Add (Value.bytes _ _) (Value.bytes _ _)) _ _ _); (refine KBy.add_bytes (by first | assumption | ((try simp only [Array.size_append, List.size_toArray, List.length_cons, List.length_nil]); omega)) ?_); intro _ _))
  (k_with "call builtin:len" => ((with_reducible show wpAny _ _ (call (Value.builtin "len") [Value.bytes _ _]) _ _ _); (refine len_bytes (by first | assumption | omega) ?_)))
  trivial
example {M : Model} {A : Around} {Q : Unit → Shared → Prop} {E : Value → Shared → Prop} {s : Shared} : wpAny M A (pure ()) Q E s ∨ True := by w_top off; first | (left; walk1; done) | (right; trivial)
section J_W1
/-- the signs of the texts that are asked -/
noncomputable def GoodC (c : Nat) : Prop := (48 ≤ c ∧ c ≤ 57) ∨ (97 ≤ c ∧ c ≤ 103) ∨ (65 ≤ c ∧ c ≤ 70)
noncomputable def GoodS (x : Str) : Prop := ∀ c ∈ x.cps.toList, GoodC c
theorem lo_up {c : Nat} (h : GoodC c) : lo1 c = upC c := by
  unfold lo1 upC
  unfold GoodC at h
  by_cases h1 : 65 ≤ c ∧ c ≤ 70
  · rw [if_pos (by omega), if_pos h1]
  · rw [if_neg (by omega), if_neg h1]
theorem lowS_eq {x : Str} (h : GoodS x) : lowS x = mapS upC x := by
  unfold lowS mapS
  apply Str.ext'
  show x.cps.map lo1 = x.cps.map upC
  exact Array.map_congr_left fun c hc => lo_up (h c (by simpa using hc))
theorem pre_cut {y : Str} {b : Array UInt8} (hb : b.size = 4) (hy : y.cps.size ≤ 8) : preB y b = cutB y b := by
  have hl : (hexL b.toList).length = 8 := by
    have := hexS_size b
    unfold hexS at this
    simp only [List.size_toArray] at this
    omega
  have hl2 : (hexS b).length = 8 := by show (hexS b).cps.size = 8; rw [hexS_size]; omega
  have hc : (hexS b).cps.toList = hexL b.toList := by unfold hexS; simp
  unfold preB cutB Txt.startswith
  rw [StrLaws.subAt_eq, hc, hl2, List.drop_zero, decide_eq_true (show 0 + y.length ≤ 8 by show 0 + y.cps.size ≤ 8; omega), Bool.true_and]
  rfl
theorem fig_hex : ∀ k, k < 16 → hexOk (fig k) = true := by decide
theorem hexL_ok (l : List UInt8) : ∀ c ∈ hexL l, hexOk c = true := by
  intro c hc
  unfold hexL at hc
  refine hushL ?_
  intro hG
  obtain ⟨a, _, ha⟩ := List.mem_flatMap.mp hc
  k_unfold
  clear hG
  have := a.toNat_lt
  rcases List.mem_cons.mp ha with rfl | ha
  · exact fig_hex _ (by omega)
  · rw [List.mem_singleton.mp ha]; exact fig_hex _ (by omega)
theorem cut_no {y : Str} {b : Array UInt8} (h : y.cps.toList.all hexOk = false) : cutB y b = false := by
  cases q : cutB y b with
  | false => rfl
  | true =>
    unfold cutB at q
    rw [beq_iff_eq] at q
    have : y.cps.toList.all hexOk = true := by
      rw [← q]
      exact List.all_eq_true.mpr fun c hc => hexL_ok _ c (List.mem_of_mem_take hc)
    rw [h] at this
    cases this
theorem mapS_size (f : Nat → Nat) (x : Str) : (mapS f x).cps.size = x.cps.size := by unfold mapS; rw [Array.size_map]
theorem hits_cut {rs : List Rec} {x : Str} (hg : GoodS x) (hz : 4 ≤ x.cps.size ∧ x.cps.size ≤ 8) : hits rs x = cutR rs x := by
  unfold hits preS cutR
  rw [lowS_eq hg]
  cases hall : (mapS upC x).cps.toList.all hexOk with
  | true =>
    rw [if_pos ⟨hz.1, hz.2, rfl⟩]
    exact List.filter_congr fun r _ => pre_cut (by rfl) (by rw [mapS_size]; exact hz.2)
  | false =>
    rw [if_neg (fun h => by cases h.2.2)]
    exact (List.filter_eq_nil_iff.mpr fun r _ => by rw [cut_no hall]; decide).symm
theorem hits_out {rs : List Rec} {x : Str} (hz : ¬ (4 ≤ x.cps.size ∧ x.cps.size ≤ 8)) : hits rs x = [] := by
  unfold hits preS
  rw [if_neg (fun h => hz ⟨h.1, h.2.1⟩)]
/-- two answers that are the same text, or the same octets -/
noncomputable def Alike9 (v u : Value) : Prop := (∃ z t t', v = .str z t ∧ u = .str z t') ∨ (∃ b t t', v = .bytes b t ∧ u = .bytes b t')
theorem told_due {fb : Rec → Bool} {rs : List Rec} {x : Str} {kd : Option Nat} {v u : Value} (hg : GoodS x) (hv : IsTold fb rs x kd v) (hu : IsDue fb rs x kd u) : Alike9 v u := by
  by_cases hz : 4 ≤ x.cps.size ∧ x.cps.size ≤ 8
  · have he := hits_cut (rs := rs) hg hz
    have hk : keptR fb rs x kd = dueK fb rs x kd := by unfold keptR dueK; rw [he]
    unfold IsTold at hv
    rw [hk, he] at hv
    rcases hv with ⟨h0, t, rfl⟩ | ⟨h0, r, t, hr, rfl⟩ | ⟨h0, hl, t, rfl⟩ <;> rcases hu with ⟨h1, t', rfl⟩ | ⟨_, h1, hu⟩
    · exact .inl ⟨_, _, _, rfl, rfl⟩
    · exact absurd h0 h1
    · exact absurd (h1.resolve_left (fun h => h hz)) h0
    · rcases hu with ⟨r', t', hr', rfl⟩ | ⟨hl, _⟩
      · rw [hr] at hr'
        cases hr'
        exact .inr ⟨_, _, _, rfl, rfl⟩
      · rw [hr] at hl; exact absurd rfl hl
    · exact absurd (h1.resolve_left (fun h => h hz)) h0
    · rcases hu with ⟨r', t', hr', rfl⟩ | ⟨_, t', rfl⟩
      · rw [hr'] at hl; exact absurd rfl hl
      · exact .inl ⟨_, _, _, rfl, rfl⟩
  · have he := hits_out (rs := rs) hz
    rcases hv with ⟨h0, t, rfl⟩ | ⟨h0, _⟩ | ⟨h0, _⟩
    · rcases hu with ⟨h1, t', rfl⟩ | ⟨h1, _⟩
      · exact .inl ⟨_, _, _, rfl, rfl⟩
      · exact absurd h1 hz
    · exact absurd he h0
    · exact absurd he h0
/-- «Fits» is told of each object -/
theorem fits_total {rs : List Rec} (h : RecsOk rs) {kd : Nat} (hkd : kd < 4) : ∀ (m : Nat) (r : Rec), r ∈ rs → r.n < m → ∃ b, Fits rs kd r b
  | 0, _, _, hm => absurd hm (Nat.not_lt_zero _)
  | m + 1, r, hr, hm => by
    by_cases hk : r.k = kd
    · exact ⟨true, .hit r hk⟩
    by_cases hg : kd = 1 ∨ kd = 2
    · cases hgo : r.goal with
      | none => exact ⟨false, .no r hk (.inl hgo)⟩
      | some g =>
        refine hushL ?_
        intro hG
        obtain ⟨r', hr', e, hlt, _⟩ := h.goal r hr g hgo
        k_unfold
        clear hG
        obtain ⟨b, hb⟩ := fits_total h hkd m r' hr' (by omega)
        exact ⟨b, .go r hk hg r' hr' (by rw [hgo, e]) b hb⟩
    · exact ⟨false, .no r hk (.inr (by omega))⟩
theorem fits_fun {rs : List Rec} (h : RecsOk rs) (kd : Option Nat) (hkd : ∀ k, kd = some k → k < 4) : ∃ fb : Rec → Bool, ∀ k, kd = some k → ∀ r ∈ rs, Fits rs k r (fb r) := by
  cases kd with
  | none => exact ⟨fun _ => true, fun k e => by cases e⟩
  | some k =>
    have ht : ∀ r, ∃ b, r ∈ rs → Fits rs k r b := fun r => by
      by_cases hr : r ∈ rs
      · obtain ⟨b, hb⟩ := fits_total h (hkd k rfl) (r.n + 1) r hr (Nat.lt_succ_self _)
        exact ⟨b, fun _ => hb⟩
      · exact ⟨true, fun h => absurd h hr⟩
    exact ⟨fun r => (ht r).choose, fun k' e r hr => by cases e; exact (ht r).choose_spec hr⟩
end J_W1
example {M : Model} {A : Around} {Q : Unit → Shared → Prop} {E : Value → Shared → Prop} {s : Shared} : wpAny M A (pure ()) Q E s ∨ True := by w_top off; first | (left; walk1; done) | (right; trivial)
section J_K1
theorem args9 {w : World} {s₀ s₁ : Shared} (args : List WData) (vals : List Value) (as : List Addr) (hpre : PySem.Challenge.rw_pb0121_01.row.toRowW.claim.pre args = true) (hlay : WData.layableAll args = true) (hrd : ReadsAllW PySem.Challenge.rw_pb0121_01.row.toRowW.records (classAt s₀.heap) s₁.heap vals args as) (hwl : WellAll w.params s₁.heap vals args) (hlo : ∀ a ∈ as, (a == sysModules) = false) :
    ∃ l vs ns, vals = [.ref l] ∧ s₁.heap.IsList l vs.toArray ∧ IntsAre vs ns ∧ ns.length ≤ 63 := by
  wrow_args hpre hlay hrd hwl hlo
  exact ⟨_, _, _, rfl, by assumption, by assumption, by rename ¬ _ < _ => h; omega⟩
theorem turn_fr {g g' h : Heap} {L : Addr} {m : Str → Option Value} (T : KtsTurn [] g g') (F : Fr g' L h m) : Fr g L h m :=
  ⟨F.ns, fun b o e => F.keep b o (T.other b o e (by simp)), by rw [← T.size]; exact F.above⟩
theorem turn_news {g g' h : Heap} {L : Addr} {news : Led} (T : KtsTurn [] g g') (N : News g' L h news) : News g L h news := fun p hp => by
  refine ⟨(N p hp).1, (N p hp).2.1, ?_⟩
  cases q : g.get? p.1 with
  | none => rfl
  | some o => have := T.other _ _ q (by simp); rw [(N p hp).2.2] at this; cases this
theorem enterL {c : Cx} {s₁ : Shared} {vs : List Value} {Q : Value → Shared → Prop} {name qual : Str} {params : Arguments} {body : List Stmt} {scope : Scope} {dV kV doc pm cdv ct oc : Value} {an od : Option Addr} {osl : Array (Option Value)} {binds : List (Str × Value)}
    (X : (hd.heap_1 c.w.params).In s₁.heap) (T : Top hd.view_1 LO c.mean c.mg c.mb s₁.heap)
    (ho : (hd.heap_1 c.w.params).lookup 590 = some ⟨oc, od, .func (fnOf name qual params body scope dV kV doc pm an cdv ct), osl⟩) (hcd : codeIn (hd.heap_1 c.w.params) cdv qual = true)
    (hbind : ∀ s : Shared, (hd.heap_1 c.w.params).In s.heap → BindsTo s (fnOf name qual params body scope dV kV doc pm an cdv ct) ⟨vs, []⟩ binds) (hkind : (binds.all fun y => scope.names.lookup y.1 == some .local || scope.names.lookup y.1 == some .cell) = true)
    (hnd : ((cellsFrom 0 scope.names []).map (·.1)).Nodup)
    (hco : scope.isCoroutine = false) (hgen : scope.isGenerator = false) (hk : scope.kind = .function)
    (h : ∀ (L' : Addr) (h₁ : Heap) (tk : Nat) (cells : Led),
      At c (1 + claimMargin + 1) (4 + 3) (some []) qual scope 590 cdv (cellsFrom (L' + 1) scope.names []) [] callerA s₁.heap s₁.heap L' (bindL (envX qual scope L' 590 cdv (cellsFrom (L' + 1) scope.names [])).kindOf binds fun _ => none) h₁ cells →
      CellsAre (bindC (envX qual scope L' 590 cdv (cellsFrom (L' + 1) scope.names [])).kindOf binds fun _ => none) (cellsFrom (L' + 1) scope.names []) cells →
      wpR (model PySem.Challenge.rw_pb0121_01.row.prog c.w) (ktrTop (1 + claimMargin + 1) (4 + 3) (some []) qual scope L' 590 cdv (cellsFrom (L' + 1) scope.names []) []) (execs body (envX qual scope L' 590 cdv (cellsFrom (L' + 1) scope.names []))) (fun fl s' => Q (flowVal fl) s') { s₁ with heap := h₁, toks := tk }) :
    wpR (model PySem.Challenge.rw_pb0121_01.row.prog c.w) callerA (call (.ref 590) vs) Q s₁ := by
  refine wpR_call ?_
  refine codeR_call_function (o := ⟨oc, od, .func (fnOf name qual params body scope dV kV doc pm an cdv ct), osl⟩) (by show 1 + claimMargin < recursionLimit; decide) (X _ _ ho) rfl hco hgen rfl (codeRec_of X hcd) (hbind s₁ X _ _ _ _ ?_)
  refine wpAny_newFunctionEnv_cells hk (kindsX hkind _) fun env' he s' x => ?_
  subst he
  have hkeep := x.toInCall.keep
  refine ⟨T.nolimit.keeps hkeep, codeR_func ?_⟩
  refine hushL ?_
  intro hGG
  obtain ⟨h₁, tk, rfl, -⟩ := x.done
  k_unfold
  clear hGG
  refine hushL ?_
  intro hG
  obtain ⟨cells, NC, Y⟩ := Cl.news (h₀ := s₁.heap) (Nat.le_refl _) fun n c hm => ⟨x.cell n c (lookup_of_mem_nodup (cellsFrom_names scope.names 0 (s₁.heap.objs.size + 1) [] [] rfl ▸ hnd) hm), x.above n c hm⟩
  k_unfold
  clear hG
  have z := h s₁.heap.objs.size h₁ tk cells ⟨below_caller _, ⟨x.toInCall.ns, hkeep, Nat.le_refl _⟩, X, NC, T, hk⟩ Y
  refine wpR_mono z fun fl s' hq => ?_
  cases fl <;> exact hq
end J_K1
example {M : Model} {A : Around} {Q : Unit → Shared → Prop} {E : Value → Shared → Prop} {s : Shared} : wpAny M A (pure ()) Q E s ∨ True := by w_top off; first | (left; walk1; done) | (right; trivial)
section J_K0
theorem kdn_here {c : Cx} {h₀ : Heap} {L : Addr} {m : Str → Option Value} {s : Shared} {d : Addr} {o : Obj} {news : Led} {Q : Value → Shared → Prop} {ps : List (Value × Value)} (F : Fr h₀ L s.heap m) (N : News h₀ L s.heap news) (hm : (d, o) ∈ news) (hd : o.IsDictOf (KS c.w) []) (hk : allStrKeys ps = true) (hn : ((strPairs ps).map (·.1)).Nodup)
    (h : ∀ h' o', Fr h₀ L h' m → News h₀ L h' (upd news d o') → o'.IsDictOf (KS c.w) (strPairs ps) → Q (.ref d) { s with heap := h', toks := s.toks + ps.length }) : KdnMade PySem.Challenge.rw_pb0121_01.row.prog c.w (KS c.w) d Q ps s := by
  have hb := N _ hm
  refine display_done_str hk hn (Heap.dictOf_iff.mpr ⟨o, hb.1, hd⟩) fun h' hmm hs => ?_
  refine hushL ?_
  intro hG
  obtain ⟨o', ho', hd'⟩ := Heap.dictOf_iff.mp hmm
  k_unfold
  clear hG
  obtain ⟨F6, N6⟩ := news_upd9 F N hm hs ho'
  exact h h' o' F6 N6 hd'
theorem made8_of {w : World} {news : Led} {a : Ads} (e0 : a.d ≠ a.l) (e1 : a.d < a.dh) (e2 : a.l < a.dh) (e3 : a.dh < a.hs) (e4 : a.hs < a.kn) (e5 : a.kn < a.wd) (e6 : a.wd < a.ds) (e7 : a.ds < a.st) (e8 : a.st < a.kp) (e9 : a.kp < a.kw)
    (lo1 : (a.kn == sysModules) = false) (lo2 : (a.kp == sysModules) = false) (lo3 : (a.kw == sysModules) = false)
    (D : DeckIn w news a.d a.l) (W : Wd w news a 0) (K1 : KnIn w news a.kn []) (K2 : KnIn w news a.kp []) (K3 : KnIn w news a.kw [])
    (H1 : (a.hs, instObj 120 a.dh) ∈ news) (H2 : ∃ h1 t1 t3 h2 t2 n, (a.dh, dictOf [⟨h1, .str (Str.ofString "size") t1, .int 4 t3⟩, ⟨h2, .str (Str.ofString "known") t2, .ref a.kn⟩] n) ∈ news)
    (S1 : (a.st, instObj 533 a.ds) ∈ news) (S2 : ∃ h1 t1 h2 t2 n, (a.ds, dictOf [⟨h1, .str (Str.ofString "hasher") t1, .ref a.hs⟩, ⟨h2, .str (Str.ofString "kept") t2, .ref a.kp⟩] n) ∈ news) : Made8 w news a := by
  replace e1 := ltN e1; replace e2 := ltN e2; replace e3 := ltN e3; replace e4 := ltN e4; replace e5 := ltN e5; replace e6 := ltN e6; replace e7 := ltN e7; replace e8 := ltN e8; replace e9 := ltN e9
  refine hushL ?_
  intro hG
  obtain ⟨x1, x2, x3, x4, x5, x6, H2⟩ := H2
  k_unfold
  clear hG
  refine hushL ?_
  intro hG
  obtain ⟨y1, y2, y3, y4, y5, S2⟩ := S2
  k_unfold
  clear hG
  have off : ∀ x, x ≠ a.d → x ≠ a.l → x ≠ a.kn → x ≠ a.kp → x ≠ a.wd → x ≠ a.kw → x ∉ a.muts := fun x h1 h2 h3 h4 h5 h6 => by simp [Ads.muts, *]
  refine ⟨?_, ?_, ⟨⟨H1, ?_⟩, _, _, _, _, _, _, H2, ?_⟩, ⟨⟨S1, ?_⟩, _, _, _, _, _, S2, ?_⟩, D, W, K1, K2, K3⟩
  · simp only [Ads.muts, List.nodup_cons, List.mem_cons, List.not_mem_nil, or_false, not_false_eq_true, List.nodup_nil, and_true, not_or]
    exact ⟨⟨e0, by k_ne, by k_ne, by k_ne, by k_ne⟩, ⟨by k_ne, by k_ne, by k_ne, by k_ne⟩, ⟨by k_ne, by k_ne, by k_ne⟩, ⟨by k_ne, by k_ne⟩, by k_ne⟩
  · intro x hx
    simp only [List.mem_cons, List.not_mem_nil, or_false] at hx
    rcases hx with rfl | rfl | rfl
    · exact lo1
    · exact lo2
    · exact lo3
  all_goals exact off _ (by k_ne) (by k_ne) (by k_ne) (by k_ne) (by k_ne) (by k_ne)
end J_K0
example {M : Model} {A : Around} {Q : Unit → Shared → Prop} {E : Value → Shared → Prop} {s : Shared} : wpAny M A (pure ()) Q E s ∨ True := by w_top off; first | (left; walk1; done) | (right; trivial)
section J_K2l
/-- what the law's loop keeps -/
structure LawJ (c : Cx) (a : Ads) (M0 : Str → Option Value) (cnt : Nat) (k : Cnt) (rs : List Rec) (D1 ce : Addr) (ol o1 : Obj) (m : Str → Option Value) (nx : Led) : Prop where
  hM : Made c.w nx a cnt k rs
  hl : (D1, ol) ∈ nx
  hc : (ce, o1) ∈ nx
  hm : ∀ z, z ≠ Str.ofString "go" → z ≠ Str.ofString "signs" → z ≠ Str.ofString "text" → z ≠ Str.ofString "kind" → m z = M0 z
theorem map_none4 {m M0 : Str → Option Value} {x y1 y2 y3 : Str} {v : Value} (hm : ∀ z, z ≠ x → z ≠ y1 → z ≠ y2 → z ≠ y3 → m z = M0 z) : (fun y => if y = x then some v else m y) = fun y => if y = x then some v else if y = y1 then m y1 else if y = y2 then m y2 else if y = y3 then m y3 else M0 y := by
  funext y
  by_cases h : y = x
  · simp only [if_pos h]
  simp only [if_neg h]
  by_cases h1 : y = y1
  · rw [if_pos h1, h1]
  rw [if_neg h1]
  by_cases h2 : y = y2
  · rw [if_pos h2, h2]
  rw [if_neg h2]
  by_cases h3 : y = y3
  · rw [if_pos h3, h3]
  rw [if_neg h3]
  exact hm y h h1 h2 h3
theorem pick9 {P : Str → Prop} {x0 x1 x2 x3 x4 x5 x6 x7 x8 : Str} {t0 t1 t2 t3 t4 t5 t6 t7 t8 : Tok} (h0 : P x0) (h1 : P x1) (h2 : P x2) (h3 : P x3) (h4 : P x4) (h5 : P x5) (h6 : P x6) (h7 : P x7) (h8 : P x8) (i : Nat) (hi : i < 9) :
    ∃ x t, (#[Value.str x0 t0, Value.str x1 t1, Value.str x2 t2, Value.str x3 t3, Value.str x4 t4, Value.str x5 t5, Value.str x6 t6, Value.str x7 t7, Value.str x8 t8] : Array Value)[i]? = some (.str x t) ∧ P x := by
  rcases i with _ | _ | _ | _ | _ | _ | _ | _ | _ | i
  · exact ⟨_, _, rfl, h0⟩
  · exact ⟨_, _, rfl, h1⟩
  · exact ⟨_, _, rfl, h2⟩
  · exact ⟨_, _, rfl, h3⟩
  · exact ⟨_, _, rfl, h4⟩
  · exact ⟨_, _, rfl, h5⟩
  · exact ⟨_, _, rfl, h6⟩
  · exact ⟨_, _, rfl, h7⟩
  · exact ⟨_, _, rfl, h8⟩
  · omega
theorem pick5 {t1 t2 t3 t4 : Tok} (i : Nat) (hi : i < 5) :
    ∃ kd kv, (#[Value.none, Value.bytes #[98, 108, 111, 98] t1, Value.bytes #[116, 114, 101, 101] t2, Value.bytes #[99, 111, 109, 109, 105, 116] t3, Value.bytes #[116, 97, 103] t4] : Array Value)[i]? = some kv ∧ IsKind kd kv := by
  rcases i with _ | _ | _ | _ | _ | i
  · exact ⟨none, _, rfl, rfl⟩
  · exact ⟨some 0, _, rfl, by decide, _, rfl⟩
  · exact ⟨some 1, _, rfl, by decide, _, rfl⟩
  · exact ⟨some 2, _, rfl, by decide, _, rfl⟩
  · exact ⟨some 3, _, rfl, by decide, _, rfl⟩
  · omega
theorem hexS_good (b : Array UInt8) : GoodS (hexS b) := fun c hc => by
  have h := hexL_ok b.toList c (by simpa [hexS] using hc)
  unfold hexOk at h
  unfold GoodC
  simp at h
  omega
theorem good_take {x : Str} (h : GoodS x) (n : Nat) : GoodS ⟨(x.cps.toList.take n).toArray⟩ := fun c hc => h c (List.mem_of_mem_take (by simpa using hc))
theorem len_idsM {prog : Program} {w : World} {A : Around} {E : Value → Shared → Prop} {s : Shared} {h₀ : Heap} {L : Addr} {news : Led} {D : Addr} {ts : List (Array UInt8 × Tok)} {cc n : Nat} {Q : Value → Shared → Prop} (N : News h₀ L s.heap news) (hm : (D, idsL ts cc) ∈ news) (hts : ts.length = n) (hn : n ≤ 20) (h : Q (.int n (s.toks + 1)) { s with toks := s.toks + 1 + 1 }) :
    wpAny (model prog w) A (call (.builtin "len") [.ref D]) Q E s := by
  have e : (ts.map fun p => Value.bytes p.1 p.2).toArray.size = n := by rw [List.size_toArray, List.length_map, hts]
  exact len_list (N.isList hm) (by rw [e]; omega) (by rw [e]; exact h)
/-- a text that may be asked for -/
noncomputable def Text9 (x : Str) : Prop := GoodS x ∧ x.cps.size ≤ 9
theorem good_slice {x : Str} (hg : GoodS x) (hz : x.cps.size = 8) (n : Nat) : Text9 (Txt.slice x none (some (n : Int))) := by
  rw [slice_take]
  refine ⟨good_take hg n, ?_⟩
  show (x.cps.toList.take n).toArray.size ≤ 9
  rw [List.size_toArray, List.length_take, Array.length_toList]
  omega
noncomputable def goodB (c : Nat) : Bool := (48 ≤ c && c ≤ 57) || (97 ≤ c && c ≤ 103) || (65 ≤ c && c ≤ 70)
theorem good_lit {y : Str} (h : y.cps.toList.all goodB = true) (hz : y.cps.size ≤ 9) : Text9 y := by
  refine ⟨fun c hc => ?_, hz⟩
  have := List.all_eq_true.mp h c hc
  unfold goodB at this
  unfold GoodC
  simp at this
  omega
theorem good_app {x y : Str} (hx : GoodS x) (hy : Text9 y) (hz : x.cps.size + y.cps.size ≤ 9) : Text9 (x ++ y) := by
  have e : (x ++ y).cps = x.cps ++ y.cps := rfl
  refine ⟨fun c hc => ?_, by rw [e, Array.size_append]; exact hz⟩
  rw [e, Array.toList_append] at hc
  rcases List.mem_append.mp hc with hc | hc
  · exact hx c hc
  · exact hy.1 c hc
theorem good_down {x : Str} (hx : Text9 x) : Text9 (mapS downC x) := by
  refine ⟨fun c hc => ?_, by rw [mapS_size]; exact hx.2⟩
  obtain ⟨d, hd, rfl⟩ := List.mem_map.mp (show c ∈ x.cps.toList.map downC from by simpa [mapS] using hc)
  have := hx.1 d hd
  unfold GoodC at this ⊢
  unfold downC
  split <;> omega
theorem texts9 {x : Str} {t0 t1 t2 t3 t4 t5 t6 t7 t8 : Tok} {n : Nat} (hg : GoodS x) (hz : x.cps.size = 8) (i : Nat) (hi : i < 9) :
    ∃ y t, (#[Value.str (Txt.slice x none (some (4 + (n : Int)))) t0, Value.str (Txt.slice x none (some 6)) t1, Value.str (Txt.slice x none (some 7)) t2, Value.str x t3, Value.str (Str.ofString "000") t4, Value.str (Str.ofString "") t5, Value.str (x ++ Str.ofString "0") t6, Value.str (Str.ofString "00g0") t7, Value.str (Str.ofString "ffff") t8] : Array Value)[i]? = some (.str y t) ∧ Text9 y := by
  have e0 : (4 + (n : Int)) = ((4 + n : Nat) : Int) := by omega
  rw [e0]
  exact pick9 (good_slice hg hz _) (good_slice hg hz 6) (good_slice hg hz 7) ⟨hg, by omega⟩ (good_lit (by decide +kernel) (by decide +kernel)) (good_lit (by decide +kernel) (by decide +kernel)) (good_app hg (good_lit (by decide +kernel) (by decide +kernel)) (by rw [hz]; decide +kernel)) (good_lit (by decide +kernel) (by decide +kernel)) (good_lit (by decide +kernel) (by decide +kernel)) i hi
theorem good_128 {x : Str} (h : GoodS x) : ∀ k ∈ x.cps.toList, k < 128 := fun k hk => by
  have := h k hk
  unfold GoodC at this
  omega
/-- behind the capitals -/
noncomputable def TextJ (g : Heap) (L' : Addr) (M2 : Str → Option Value) (c : Cx) (a : Ads) (cnt : Nat) (k : Cnt) (rs : List Rec) (D1 ce : Addr) (ol o1 : Obj) (I : Addr) (own : Led) (s : Shared) (f : Flow) (s' : Shared) : Prop :=
  f = .next ∧ ∃ h' tk Y y t, s' = { s with heap := h', toks := tk } ∧ Made c.w Y a cnt k rs ∧ Side (fun x => x ≠ I) Y own a ∧ (D1, ol) ∈ Y ∧ (ce, o1) ∈ Y ∧ Text9 y ∧
    Fr g L' h' (fun z => if z = Str.ofString "text" then some (.str y t) else M2 z) ∧ News g L' h' (Y ++ own)
theorem fr_text {h₀ h : Heap} {L : Addr} {x : Str} {v : Value} {M : Str → Option Value} (F : Fr h₀ L h (fun z => if z = x then some v else M z)) : ∃ M2, M2 = M ∧ Fr h₀ L h (fun z => if z = x then some v else M2 z) := ⟨M, rfl, F⟩
theorem fr_again {h₀ h : Heap} {L : Addr} {x : Str} {v v' : Value} {M : Str → Option Value} (F : Fr h₀ L h (fun z => if z = x then some v else if z = x then some v' else M z)) : Fr h₀ L h (fun z => if z = x then some v else M z) := fr_eq F (by
  funext z
  by_cases h : z = x
  · simp only [if_pos h]
  · simp only [if_neg h])
theorem map_all4 {m M0 : Str → Option Value} {x y1 y2 y3 : Str} (hm : ∀ z, z ≠ x → z ≠ y1 → z ≠ y2 → z ≠ y3 → m z = M0 z) : m = fun y => if y = x then m x else if y = y1 then m y1 else if y = y2 then m y2 else if y = y3 then m y3 else M0 y := by
  funext y
  by_cases h : y = x
  · rw [if_pos h, h]
  rw [if_neg h]
  by_cases h1 : y = y1
  · rw [if_pos h1, h1]
  rw [if_neg h1]
  by_cases h2 : y = y2
  · rw [if_pos h2, h2]
  rw [if_neg h2]
  by_cases h3 : y = y3
  · rw [if_pos h3, h3]
  rw [if_neg h3]
  exact hm y h h1 h2 h3
noncomputable def NoCell (o : Obj) : Prop := ∀ v, o.data ≠ .cell v
theorem Off.offc {Y Y' : Led} {M : List Addr} {b : Addr} {o : Obj} (h : Off Y M b o) (hk : ∀ b o, (b, o) ∈ Y → NoCell o → (b, o) ∈ Y') (hd : NoCell o) : Off Y' M b o := ⟨hk _ _ h.1 hd, h.2⟩
theorem nc_inst {a b : Addr} : NoCell (instObj a b) := fun _ e => by cases e
theorem nc_dict {es : List DictEntry} {n : Nat} : NoCell (dictOf es n) := fun _ e => by cases e
theorem nc_tup {x y : Value} : NoCell (tup2 x y) := fun _ e => by cases e
theorem nc_ids {ts : List (Array UInt8 × Tok)} {k : Nat} : NoCell (idsL ts k) := fun _ e => by cases e
theorem nc_isdict {K : Type} [DecidableEq K] {prog : Program} {w : World} {knd : KeyKind prog w K} {o : Obj} {kvs : List (K × Value)} (h : o.IsDictOf knd kvs) : NoCell o := fun v e => by
  refine hushL ?_
  intro hG
  obtain ⟨es, ep, _, hd, _⟩ := h
  k_unfold
  clear hG
  rw [hd] at e
  cases e
theorem Sto.offc {w : World} {Y Y' : Led} {a : Ads} {rs : List Rec} (h : Sto w Y a rs) (hk : ∀ b o, (b, o) ∈ Y → NoCell o → (b, o) ∈ Y') (ha : ∃ b o, Off Y' a.muts b o ∧ ∀ x ∈ a.muts, x < b) : Sto w Y' a rs := by
  refine hushL ?_
  intro hG
  obtain ⟨⟨n1, n2, ⟨h1, x1, x2, x3, x4, x5, x6, h2⟩, ⟨s1, y1, y2, y3, y4, y5, s2⟩, _⟩, ok, ⟨o, ho, hd⟩, rows⟩ := h
  k_unfold
  clear hG
  refine ⟨⟨n1, n2, ⟨h1.offc hk nc_inst, x1, x2, x3, x4, x5, x6, h2.offc hk nc_dict⟩, ⟨s1.offc hk nc_inst, y1, y2, y3, y4, y5, s2.offc hk nc_dict⟩, ha⟩, ok, ⟨o, hk _ _ ho (nc_isdict hd), hd⟩, fun r hr => ?_⟩
  refine hushL ?_
  intro hG
  obtain ⟨t, th, m, x⟩ := rows r hr
  k_unfold
  clear hG
  refine ⟨t, th, m.offc hk nc_tup, ?_⟩
  rcases x with h | ⟨e, g, ta, D, e1, e2, m1, h1, t1, t, h2, t2, v2, h3, t3, v3, h4, t4, v4, h5, t5, v5, h6, t6, v6, n, m2⟩ | ⟨e, g, ta, D, e1, e2, m1, h1, t1, t, h2, t2, v2, h3, t3, v3, h4, t4, v4, h5, t5, v5, h6, t6, v6, n, m2⟩
  · exact .inl h
  · exact .inr (.inl ⟨e, g, ta, D, e1, e2, m1.offc hk nc_inst, h1, t1, t, h2, t2, v2, h3, t3, v3, h4, t4, v4, h5, t5, v5, h6, t6, v6, n, m2.offc hk nc_dict⟩)
  · exact .inr (.inr ⟨e, g, ta, D, e1, e2, m1.offc hk nc_inst, h1, t1, t, h2, t2, v2, h3, t3, v3, h4, t4, v4, h5, t5, v5, h6, t6, v6, n, m2.offc hk nc_dict⟩)
theorem ids_eq {A : Around} {s : Shared} {D1 D2 : Addr} {ts1 ts2 : List (Array UInt8 × Tok)} (h1 : s.heap.IsList D1 (ts1.map fun p => Value.bytes p.1 p.2).toArray) (h2 : s.heap.IsList D2 (ts2.map fun p => Value.bytes p.1 p.2).toArray) (e : ts1.map (fun p => p.1.toList) = ts2.map fun p => p.1.toList) (hu : A.units < cLine) :
    PySem.SeqAt.RcAt A s (.ref D1) (.ref D2) true := by
  have hl : ts1.length = ts2.length := by simpa using congrArg List.length e
  have z := PySem.SeqAt.RcAt.lists (e := fun _ => true) h1 h2 (by simp only [List.size_toArray, List.length_map]; exact hl) hu (fun j a b => by
    have a' : j < ts1.length := by simpa using a
    have b' : j < ts2.length := by simpa using b
    have q : ts1[j].1.toList = ts2[j].1.toList := by
      have := congrArg (·[j]?) e
      simpa [List.getElem?_map, List.getElem?_eq_getElem a', List.getElem?_eq_getElem b'] using this
    simp only [List.getElem_toArray, List.getElem_map]
    exact fun prog w E Q hq => eqBool_bytes (by rw [decide_eq_true q]; exact hq))
  rw [show ((List.range ((ts1.map fun p => Value.bytes p.1 p.2).toArray).size).all fun _ => true) = true from List.all_eq_true.mpr fun _ _ => rfl] at z
  exact z
theorem pre_all {rs : List Rec} {y : Str} (hy : y.cps.size ≤ 8) : (rs.filter fun r => preB y (idA r.n)) = rs.filter fun r => cutB y (idA r.n) := by
  congr 1
  funext r
  exact pre_cut rfl hy
end J_K2l
example {M : Model} {A : Around} {Q : Unit → Shared → Prop} {E : Value → Shared → Prop} {s : Shared} : wpAny M A (pure ()) Q E s ∨ True := by w_top off; first | (left; walk1; done) | (right; trivial)
section J_K2
example : True := by
  (k_with "KdnMade" => refine stop9 ?_)
  (k_with "call builtin:len" => with_reducible refine stopP6 ?_)
  (k_with "call builtin:sorted" => with_reducible refine stopP11 ?_)
  (k_with "call builtin:str.join" => with_reducible refine stopP21 ?_)
  (k_with "subscriptTail" => with_reducible refine stopP8 ?_)
  (k_with "subscriptTail" => with_reducible refine stopP20 ?_)
  (k_with "subscriptTail" => ((with_reducible show wpAny _ _ (subscriptTail _ _ (Value.ref _) (Value.str _ _)) _ _ _); first | (refine' kda_item (knd := PySem.strKind _ _) ?iN ?im ?ih (strKind_is _ _ _ _) ?iv ?_; (case iN => assumption); (case im => assumption); (case ih => assumption); (case iv => with_unfolding_all rfl)) | (plain_pass; refine stop9 ?_)))
  (k_with "binaryOp Add str str" => with_reducible refine stopP22 ?_)
  (k_with "exec If" => with_reducible refine stopP23 ?_)
  (k_with "call builtin:len" => with_reducible refine stopP19 ?_)
  (k_with "compareOp Eq" => with_reducible refine stopP14 ?_)
  trivial
theorem law_wp (c : Cx) (s₁ : Shared) (l : Addr) (vs : List Value) (ns : List Int) (X : (hd.heap_1 c.w.params).In s₁.heap) (T : Top hd.view_1 LO c.mean c.mg c.mb s₁.heap) (hl : s₁.heap.IsList l vs.toArray) (hi : IntsAre vs ns) (hn : ns.length ≤ 63) :
    wpR (model PySem.Challenge.rw_pb0121_01.row.prog c.w) callerA (PySem.call (.ref 590) [.ref l]) (fun v s' => v = .bool true ∧ (∀ b o, s₁.heap.get? b = some o → s'.heap.get? b = some o) ∧ s'.gens = s₁.gens ∧ s'.os = s₁.os) s₁ := by
  refine' enterL (binds := [(Str.ofString "script", .ref l)]) X T ?k6 ?k7 ?k9 ?kB ?kD ?c2 ?c3 ?c4 ?_
  ((case k6 => k_is); (case k7 => k_is); (case k9 => intro s9 X9; first | exact BindsTo.of_eq rfl | exact binds_K X9 rfl (by k_is) rfl rfl rfl); (case kB => exact rfl); (case kD => decide +kernel); (case c2 => exact rfl); (case c3 => exact rfl); (case c4 => exact rfl); skip)
  intro L' h₁ tk cells C Y
  refine hushL ?_
  intro hG
  obtain ⟨B, F, X, N, T, hk9⟩ := C
  k_unfold
  clear hG
  refine hideR fun Q9 hQ9 => ?_
  refine letA (P := fun A9 => wpR _ A9 _ _ _) _ ?_
  intro A9
  refine hushL ?_
  intro hG
  obtain ⟨o1, hE, d1⟩ := CellsAre.one Y
  k_unfold
  clear hG
  subst hE
  (try dsimp only)
  refine wpR_step ?_
  k_fold
  replace d1 : o1.data = .cell none := d1
  have hdp : 1 + claimMargin + 1 = 302 := rfl
  have hrl : recursionLimit = 1000 := rfl
  have hcl : cLine = 9900 := rfl
  replace F : Fr s₁.heap L' h₁ (fun y => if y = Str.ofString "script" then some (.ref l) else none) := F
  k_steps
  unfold Stop9
  refine deck_spec c l vs ns _ hi hn _ _ _ _ _ _ _ _ _ _ _ _ _ _ _ _ _ ⟨B, F, X, N, T, rfl⟩ hl (by omega) (by omega) (fun v n2 h2 t2 hv2 hs2 F2 N2 K2 => ?_)
  refine hushL ?_
  intro hGG
  obtain ⟨d, l', rfl, hs2', hD, hne⟩ := hv2
  k_unfold
  clear hGG
  dsimp only
  k_steps
  unfold Stop9
  refine' Spec.use (hasher_new c _ _) ?sB ?sF ?sX ?sN ?sT ?sk ?sd ?su ?_
  ((case sB => assumption); (case sF => assumption); (case sX => assumption); (case sN => assumption); (case sT => assumption); (case sk => first | rfl | assumption); (case sd => (first | (refine' room9 ?rh ?rk; (case rh => assumption); (case rk => rfl)) | (refine' room1 ?rh ?rk; (case rh => assumption); (case rk => rfl)) | omega)); (case su => (first | (refine' room9 ?rh ?rk; (case rh => assumption); (case rk => rfl)) | (refine' room1 ?rh ?rk; (case rh => assumption); (case rk => rfl)) | omega)))
  intro v n3 h3 t3 hv3 hs3 F3 N3 K3
  refine hushL ?_
  intro hGG
  obtain ⟨hs8, hs, dh, kn, okn, rfl, mh1, mh2, mkn, dkn, lokn, o1', o2', o3'⟩ := hv3
  k_unfold
  clear hGG
  dsimp only
  k_steps
  refine wpR_step ?_
  k_steps
  unfold Stop9
  refine' Spec.use (finder_new c _ _) ?sB ?sF ?sX ?sN ?sT ?sk ?sd ?su ?_
  ((case sB => assumption); (case sF => assumption); (case sX => assumption); (case sN => assumption); (case sT => assumption); (case sk => first | rfl | assumption); (case sd => (first | (refine' room9 ?rh ?rk; (case rh => assumption); (case rk => rfl)) | (refine' room1 ?rh ?rk; (case rh => assumption); (case rk => rfl)) | omega)); (case su => (first | (refine' room9 ?rh ?rk; (case rh => assumption); (case rk => rfl)) | (refine' room1 ?rh ?rk; (case rh => assumption); (case rk => rfl)) | omega)))
  intro v n4 h4 t4 hv4 hs4 F4 N4 K4
  refine hushL ?_
  intro hGG
  obtain ⟨hs9, st, ds, kp, okp, rfl, ms1, ms2, mkp, dkp, lokp, o4', o5', o6'⟩ := hv4
  k_unfold
  clear hGG
  dsimp only
  k_steps
  unfold Stop9
  rename_i D9 _ l1t _ _ _ wd _ ow _ hdw lwd kw _ okw F5 N5 lkw lokw hkw _ _ _
  refine kdn_here F5 N5 (.tail _ (hs9 _ (.head _))) hdw ?k1 ?k2 (fun h6 o6 F6 N6 hd6 => ?_)
  case k1 => rfl
  case k2 => show [Str.ofString "store", Str.ofString "hasher", Str.ofString "known", Str.ofString "gone"].Nodup; decide
  have hn3 : ∀ q ∈ n3, q.1 < wd := fun q hq => lt_of_all lwd.2 q hq
  have hnu : ∀ q ∈ n3, q ∈ upd ((kw, okw) :: n4) wd o6 := fun q hq => upd_off (.tail _ (hs9 q (.tail _ (.tail _ hq)))) (Nat.ne_of_lt (hn3 q hq))
  obtain ⟨od, md⟩ := hD.memd
  obtain ⟨ol, ml⟩ := hD.meml
  have hdl : d ≠ l' := by obtain ⟨_, _, _, _, _, _, _, _, _, _, _, _, _, _, e⟩ := hD; exact e
  have e6 : wd < ds := o4' _ (.head _)
  have e7 : ∀ q ∈ n4, q.1 ≠ wd → q ∈ upd ((kw, okw) :: n4) wd o6 := fun q hq hn => upd_off (.tail _ hq) hn
  have e9 : kw ≠ wd := (Nat.ne_of_lt (lkw _ (hs9 _ (.head _)))).symm
  refine hushL ?_
  intro hG
  obtain ⟨y1, y2, y3, y4, y5, y6, mh2⟩ := mh2
  k_unfold
  clear hG
  refine hushL ?_
  intro hG
  obtain ⟨z1, z2, z3, z4, z5, ms2⟩ := ms2
  k_unfold
  clear hG
  have hM : Made8 c.w (upd ((kw, okw) :: n4) wd o6) ⟨d, l', hs, dh, kn, st, ds, kp, wd, kw⟩ := by
    refine made8_of hdl (o1' _ md) (o1' _ ml) o2' o3' (hn3 _ mkn) e6 o5' o6' (lkw _ mkp) lokn lokp lokw ?_ ?_ ⟨_, hnu _ mkn, dkn⟩ ⟨_, e7 _ mkp ?_, dkp⟩ ⟨_, upd_off (.head _) e9, empty_kind hkw⟩ (hnu _ mh1) ⟨_, _, _, _, _, _, hnu _ mh2⟩ (e7 _ ms1 ?_) ⟨_, _, _, _, _, e7 _ ms2 ?_⟩
    · exact hD.to (S := []) (by simp) (by simp) fun p hp _ => hnu p (hs8 p hp)
    · exact ⟨_, _, upd_new (.tail _ (hs9 _ (.head _))), hd6⟩
    · exact (Nat.ne_of_lt (Nat.lt_trans e6 (Nat.lt_trans o5' o6'))).symm
    · exact (Nat.ne_of_lt (Nat.lt_trans e6 o5')).symm
    · exact (Nat.ne_of_lt e6).symm
  have hcell : (L' + 1, o1) ∈ upd ((kw, okw) :: n4) wd o6 := hnu _ (hs8 _ (hs2' _ (.head _)))
  have hcA : L' + 1 ∉ (⟨d, l', hs, dh, kn, st, ds, kp, wd, kw⟩ : Ads).muts := by
    have q1 := ltN (o1' _ (hs2' _ (.head _)))
    have q2 := ltN o2'
    have q3 := ltN o3'
    have q4 := ltN (hn3 _ mkn)
    have q5 := ltN e6
    have q6 := ltN o5'
    have q7 := ltN o6'
    have q8 := ltN (lkw _ mkp)
    have q9 := hne _ (.head _)
    simp only [Ads.muts, List.mem_cons, List.not_mem_nil, or_false, not_or]
    exact ⟨q9.1, q9.2, by k_ne, by k_ne, by k_ne, by k_ne⟩
  clear hnu e7 mh1 mh2 ms1 ms2 md ml
  generalize upd ((kw, okw) :: n4) wd o6 = n6 at N6 hM hcell
  obtain ⟨a, ha⟩ : ∃ a : Ads, a = ⟨d, l', hs, dh, kn, st, ds, kp, wd, kw⟩ := ⟨_, rfl⟩
  rw [← ha] at hM hcA
  obtain ⟨r1, r2, r3⟩ : d = a.d ∧ wd = a.wd ∧ st = a.st := by subst ha; exact ⟨rfl, rfl, rfl⟩
  dsimp only
  k_steps
  clear ha
  subst r1 r2 r3
  rename Fr _ _ _ _ => F7
  rename News _ _ _ _ => N7
  refine wpR_execs_cons (wpR_Expr (wpR_Call ?_))
  k_steps
  refine wpR_callK (K := hd.heap_1 c.w.params) (by k_is) (wpR_args (wpR_any ?_))
  k_steps
  refine wpR_args (wpR_any ?_)
  k_steps
  refine wpR_args0 ?_
  dsimp only
  refine ⟨X.keeps F7.keep, ?_⟩
  refine SpecR.use (made_spec c a _ hM) B F7 X N7 T rfl (by omega) (by omega) ?_
  intro v n8 h8 t8 zy35 hs8 F8 N8 K8
  refine hushL ?_
  intro hGG
  obtain ⟨rfl, cnt, k, rs, hM8, h2⟩ := zy35
  k_unfold
  clear hGG
  have hcell8 := hs8 _ hcell hcA
  dsimp only
  clear hM N7 F7
  refine hushL ?_
  intro hG
  obtain ⟨ow8, tw8, hmw8, hdw8⟩ := hM8.wd
  k_unfold
  clear hG
  refine wpR_step ?_
  k_steps
  unfold Stop9
  rename News _ _ _ _ => N9
  rename Fr _ _ _ _ => F9
  replace N9 : News s₁.heap L' h8 (n8 ++ []) := by rw [List.append_nil]; exact N9
  refine sort_step hM8 h2 F9 N9 rfl (fun D1 h9 t9 ts cc F10 N10 hlt hts => ?_)
  have hmD : ∀ x ∈ a.muts, x < D1 := by
    refine hushL ?_
    intro hG
    obtain ⟨b, o, hb, hlb⟩ := hM8.fr.anchor
    k_unfold
    clear hG
    exact fun x hx => Nat.lt_trans (hlb x hx) (hlt _ (List.mem_append_left _ hb.1))
  have hD1 : D1 ∉ a.muts := hM8.off D1 fun q hq => hlt q (List.mem_append_left _ hq)
  have hS1 : Side (fun _ => True) ((D1, idsL ts cc) :: n8) [] a := ⟨by simp, fun _ _ => trivial, fun _ _ => trivial⟩
  replace hM8 := hM8.to (n' := (D1, idsL ts cc) :: n8) (fun q hq => .tail _ hq)
  replace hcell8 : (L' + 1, o1) ∈ (D1, idsL ts cc) :: n8 := .tail _ hcell8
  have hl8 : (D1, idsL ts cc) ∈ (D1, idsL ts cc) :: n8 := .head _
  replace N10 : News s₁.heap L' h9 ((D1, idsL ts cc) :: n8) := News.sub N10 fun q hq => by simpa using hq
  generalize (D1, idsL ts cc) :: n8 = n9 at hM8 hcell8 hl8 N10 hS1
  clear F9 N9 hlt K8 hs8 hmw8 hdw8
  dsimp only
  k_steps
  refine wpR_step ?_
  k_steps
  unfold Stop9
  rename Fr _ _ _ _ => F11
  rename News _ _ _ _ => N11
  rename IsRange _ _ _ _ _ _ _ _ => hR
  refine hushL ?_
  intro hG
  obtain ⟨M1, hM1, F11⟩ := fr_map F11
  k_unfold
  clear hG
  have hl20 := hM8.ok.len
  refine' for_goE (fun _ m nx => LawJ c a M1 cnt k rs D1 (L' + 1) (idsL ts cc) o1 m nx) ?fh ?fs ?fL ?fF ?fN ?fJ ?_ ?_
  case fF => exact F11
  case fN => exact N11
  case fh => rfl
  case fs => exact srcE_range (n := 3) hR (by decide)
  case fL => intro hm; cases hm
  case fJ => exact ⟨hM8, hl8, hcell8, fun z _ _ _ _ => rfl⟩
  · clear F11 N11 hM8 hl8 hcell8 hS1 hR
    intro I oI j v m₁ nx h tk own QT hj hv J hnI hown hIo F3 N3 hQT
    obtain ⟨tv, rfl⟩ := hv
    have hS := Side.loop J.hM hnI hown hIo (fun x hx => by cases hx)
    rw [map_none4 J.hm, hM1] at F3
    dsimp only at F3 N3
    have hts1 : ts.length = rs.length := by simpa using congrArg List.length hts
    k_steps
    unfold Stop9
    refine len_idsM N3 (List.mem_append_left _ J.hl) hts1 hl20 ?_
    dsimp only
    k_steps
    unfold Stop9
    refine draw_step J.hM hS B F3 X N3 T rfl (by omega) (by omega) (by omega) (fun Y4 h4 t4 i4 tk4 hi4 hM4 hS4 hs4 F4 N4 => ?_)
    have hl4 := hs4 _ J.hl hD1
    have hc4 := hs4 _ J.hc hcA
    dsimp only
    k_steps
    unfold Stop9
    obtain ⟨t0, ht0⟩ := ids_at hts (i := i4) (by omega)
    generalize rs[i4] = r at ht0
    refine item_listR (N4.isList (List.mem_append_left _ hl4)) (by omega) (by omega) ht0 ?_
    k_steps
    unfold Stop9
    refine' Spec.use (told_spec c (idA r.n) t0 _ (by show 4 ≤ 100; omega)) ?sB ?sF ?sX ?sN ?sT ?sk ?sd ?su ?_
    ((case sB => assumption); (case sF => assumption); (case sX => assumption); (case sN => assumption); (case sT => assumption); (case sk => first | rfl | assumption); (case sd => (first | (refine' room9 ?rh ?rk; (case rh => assumption); (case rk => rfl)) | (refine' room1 ?rh ?rk; (case rh => assumption); (case rk => rfl)) | omega)); (case su => (first | (refine' room9 ?rh ?rk; (case rh => assumption); (case rk => rfl)) | (refine' room1 ?rh ?rk; (case rh => assumption); (case rk => rfl)) | omega)))
    rintro v n5 h5 t5 ⟨rfl, th, rfl⟩ hs5 F5 N5 K5
    have hg := hexS_good (idA r.n)
    have hgz : (hexS (idA r.n)).cps.size = 8 := by rw [hexS_size]; rfl
    clear ht0 hi4 hs4 hl20 J N3 F3 F4 N4 hS
    generalize hexS (idA r.n) = x at hg hgz
    dsimp only
    k_steps
    unfold Stop9
    rename News _ _ _ _ => N6
    rename Fr _ _ _ _ => F6
    refine draw_step hM4 hS4 B F6 X N6 T rfl (by omega) (by omega) (by omega) (fun Y6 h6 t6 i6 tk6 hi6 hM6 hS6 hs6 F7 N7 => ?_)
    replace hl4 := hs6 _ hl4 hD1
    replace hc4 := hs6 _ hc4 hcA
    clear F6 N6 hM4 hS4 hs6
    dsimp only
    k_steps
    unfold Stop9
    have hxl : x.length = 8 := hgz
    refine KOpn.add (by rw [hxl]; decide) (fun t8 k8 _ => ?_)
    dsimp only
    k_steps
    unfold Stop9
    rename_i l8 h8 F8 N8 lt8
    obtain ⟨arr, ep, N8, pk⟩ : ∃ arr ep, News s₁.heap L' h8 ((l8, W.listOf arr ep) :: (Y6 ++ own)) ∧ ∀ i < 9, ∃ y t, arr[i]? = some (.str y t) ∧ Text9 y := ⟨_, _, N8, texts9 hg hgz⟩
    refine draw_step (Y := (l8, W.listOf arr ep) :: Y6) (hM6.to fun q hq => .tail _ hq) (hS6.cons fun q hq => lt8 q (List.mem_append_right _ hq)) B F8 X N8 T rfl (by omega) (by omega) (by omega) (fun Y9 h9 t9 i9 tk9 hi9 hM9 hS9 hs9 F9 N9 => ?_)
    have hl9 := hs9 _ (.head _) (hM6.off l8 fun q hq => lt8 q (List.mem_append_left _ hq))
    replace hl4 := hs9 _ (.tail _ hl4) hD1
    replace hc4 := hs9 _ (.tail _ hc4) hcA
    refine hushL ?_
    intro hG
    obtain ⟨y, ty, hy, hyt⟩ := pk i9 (by omega)
    k_unfold
    clear hG
    clear hM6 hS6 hs9 F8 N8 pk
    dsimp only
    k_steps
    unfold Stop9
    rename Fr _ _ _ _ => F10
    refine item_listR (N9.isList (List.mem_append_left _ hl9)) (by omega) (by omega) hy ?_
    k_steps
    unfold Stop9
    (try clear hy); (try clear hl9); (try clear hi9)
    rename News _ _ _ _ => N10
    rename Fr _ _ _ _ => F10
    refine hushL ?_
    intro hG
    obtain ⟨M2, hM2, F10⟩ := fr_text F10
    k_unfold
    clear hG
    refine wpAny_mono (Q := TextJ s₁.heap L' M2 c a cnt k rs D1 (L' + 1) (idsL ts cc) o1 I own s₁) ?_ (fun f s' hJ => ?_) (fun _ _ e => e)
    · rw [hM2] at F10
      dsimp only at F10
      refine wpAny_If ?_
      k_steps
      unfold Stop9
      refine draw_step hM9 hS9 B F10 X N10 T rfl (by omega) (by omega) (by omega) (fun Y9 h9 t9 i9 tk9 hi9 hM9 hS9 hs9 F9 N9 => ?_)
      replace hl4 := hs9 _ hl4 hD1
      replace hc4 := hs9 _ hc4 hcA
      clear hs9 F10 N10
      dsimp only
      k_steps
      · unfold Stop9
        refine' comp_val (h₀ := s₁.heap) (fun _ => true) (fun v y => ∃ (c : Nat) (t : Tok), (∃ u, v = Value.str ⟨#[c]⟩ u) ∧ y = Value.str ⟨#[downC c]⟩ t) ?hh ?h0 ?h1 ?h2 ?h3 ?h4 ?h9 ?h5
        case hh => rfl
        case h0 => rfl
        case h1 => decide
        case h2 => rfl
        case h3 => decide
        case h4 => rfl
        case h5 => intro _; rfl
        refine nameX_L F9 rfl ?_
        refine ⟨_, _, _, _, _, F9, N9, src_str y ty, by have := hyt.2; omega, testsOf_nil, ?_, ?_⟩
        · intro C i v s₃ m₃ zy36 hn hm hC F3 N3 hk3
          refine hushL ?_
          intro hGG
          obtain ⟨⟨ch, u, hc, rfl⟩, _⟩ := zy36
          k_unfold
          clear hGG
          refine stopEnd ?_
          k_steps
          · rename _ < (Str.ofString "a").cps.toList => h1
            rw [cpsA.2.2.1, lt1] at h1
            exact unstop ⟨⟨ch, u, ⟨u, rfl⟩, str1 (by unfold downC; rw [if_neg (by omega)]) rfl⟩, _, _, rfl, fun _ _ e => e⟩
          · rename (Str.ofString "f").cps.toList < _ => h1
            rw [cpsA.2.2.2, lt1] at h1
            exact unstop ⟨⟨ch, u, ⟨u, rfl⟩, str1 (by unfold downC; rw [if_neg (by omega)]) rfl⟩, _, _, rfl, fun _ _ e => e⟩
          · rename ¬ _ < (Str.ofString "a").cps.toList => h1
            rename ¬ (Str.ofString "f").cps.toList < _ => h2
            rw [cpsA.2.2.1, lt1] at h1
            rw [cpsA.2.2.2, lt1] at h2
            have hc1 : (0 : Int) ≤ (ch : Int) - 32 := by omega
            have hc2 : (ch : Int) - 32 < 1114112 := by have := good_128 hyt.1 ch (by simpa using Array.mem_of_getElem? hc); omega
            k_steps
            exact unstop ⟨⟨ch, _, ⟨u, rfl⟩, str1 (by unfold downC; rw [if_pos (by omega), show ((ch : Int) - 32).toNat = ch - 32 from by omega]) rfl⟩, _, _, rfl, fun _ _ e => e⟩
        · intro D h' tk ys ep vs F2 N2 hD hL hlen hP hF hk
          have hf9 : vs.filter (fun _ => true) = vs := by simp
          rw [hf9] at hF
          dsimp only at F2 N2 hL
          k_steps
          unfold Stop9
          refine join_map (N2.isList (.head _)) (by have := hyt.2; omega) hlen hP hF (fun t5 k5 => ?_)
          replace N2 := News.sub (news' := Y9 ++ own) N2 (fun q hq => .tail _ hq)
          clear F9 N9 hk hF hP hlen hD hL
          dsimp only
          k_steps
          rename Fr _ _ _ _ => F5
          rename News _ _ _ _ => N5
          refine ⟨rfl, _, _, _, _, _, rfl, hM9, hS9, hl4, hc4, good_down hyt, fr_again (by rw [hM2]; exact F5), N5⟩
      · refine ⟨rfl, _, _, _, _, _, rfl, hM9, hS9, hl4, hc4, hyt, by rw [hM2]; exact F9, N9⟩
    refine hushL ?_
    intro hGG
    obtain ⟨rfl, h10, tk10, Y10, y10, ty10, rfl, hM10, hS10, hl10, hc10, hyt10, F11, N11⟩ := hJ
    k_unfold
    clear hGG
    rw [hM2] at F11
    clear hM9 hS9 hl4 hc4 hyt F10 hM2 M2 hg hgz hxl
    dsimp only at F11 ⊢
    k_steps
    unfold Stop9
    rename_i l12 h12 F12 N12 lt12
    obtain ⟨arr2, ep2, N12, pk2⟩ : ∃ arr ep, News s₁.heap L' h12 ((l12, W.listOf arr ep) :: (Y10 ++ own)) ∧ ∀ i < 5, ∃ kd kv, arr[i]? = some kv ∧ IsKind kd kv := ⟨_, _, N12, pick5⟩
    refine draw_step (Y := (l12, W.listOf arr2 ep2) :: Y10) (hM10.to fun q hq => .tail _ hq) (hS10.cons fun q hq => lt12 q (List.mem_append_right _ hq)) B F12 X N12 T rfl (by omega) (by omega) (by omega) (fun Y11 h11 t11 i11 tk11 hi11 hM11 hS11 hs11 F11 N11 => ?_)
    have hl13 := hs11 _ (.head _) (hM10.off l12 fun q hq => lt12 q (List.mem_append_left _ hq))
    replace hl10 := hs11 _ (.tail _ hl10) hD1
    replace hc10 := hs11 _ (.tail _ hc10) hcA
    refine hushL ?_
    intro hG
    obtain ⟨kd, kv, hkv, hkk⟩ := pk2 i11 (by omega)
    k_unfold
    clear hG
    clear hM10 hS10 hs11 F12 N12 pk2
    dsimp only
    k_steps
    unfold Stop9
    refine item_listR (N11.isList (List.mem_append_left _ hl13)) (by omega) (by omega) hkv ?_
    (try clear hkv); (try clear hl13); (try clear hi11)
    k_steps
    unfold Stop9
    refine wpAny_If ?_
    refine hushL ?_
    intro hG
    obtain ⟨ow, tw, hmw, hdw⟩ := hM11.wd
    k_unfold
    clear hG
    replace hmw := List.mem_append_left own hmw
    k_steps
    unfold Stop9
    rename Fr _ _ _ _ => F13
    rename News _ _ _ _ => N13
    obtain ⟨fb, hfb⟩ := fits_fun hM11.ok kd (fun k e => by subst e; exact hkk.1)
    have hMo := hM11.to (n' := Y11 ++ own) (fun q hq => List.mem_append_left _ hq)
    refine ftold_spec c a rs y10 ty10 kd kv fb _ ⟨hMo.fr, hMo.ok, hMo.kept⟩ h2 hyt10.2 (good_128 hyt10.1) hkk hfb _ _ _ _ _ _ _ _ _ _ _ _ _ _ _ _ _ ⟨⟨B, F13, X, N13, T, rfl⟩, X, T, ktsDicts_nil⟩ (by omega) (by omega) (fun v n14 h14 t14 g14 hR hs14 T14 F14 N14 B14 => ?_) (fun e C D w9 n9 h9 t9 g9 hR hs9 F9 R9 up => hR.elim)
    replace F14 := turn_fr T14 F14
    replace N14 := turn_news T14 N14
    replace hs14 := fun q hq => hs14 q hq (by simp)
    replace hmw := hs14 _ hmw
    have hM14 := hMo.to (n' := n14) hs14
    clear F13 N13 hMo T14 B14
    dsimp only
    k_steps
    unfold Stop9
    refine' Spec.use (due_spec c a cnt k rs y10 ty10 kd kv fb _ hM14 h2 hyt10.2 (good_128 hyt10.1) hkk hfb) ?sB ?sF ?sX ?sN ?sT ?sk ?sd ?su ?_
    ((case sB => assumption); (case sF => assumption); (case sX => assumption); (case sN => assumption); (case sT => assumption); (case sk => first | rfl | assumption); (case sd => (first | (refine' room9 ?rh ?rk; (case rh => assumption); (case rk => rfl)) | (refine' room1 ?rh ?rk; (case rh => assumption); (case rk => rfl)) | omega)); (case su => (first | (refine' room9 ?rh ?rk; (case rh => assumption); (case rk => rfl)) | (refine' room1 ?rh ?rk; (case rh => assumption); (case rk => rfl)) | omega)))
    intro u n15 h15 t15 zz10 _ F15 N15 _
    refine hushL ?_
    intro hG
    obtain ⟨hs15, hU⟩ := zz10
    k_unfold
    clear hG
    have hal := told_due hyt10.1 hR hU
    clear hR hU F14 N14 hM14
    dsimp only
    rcases hal with ⟨z, tz, tz', rfl, rfl⟩ | ⟨z, tz, tz', rfl, rfl⟩
    all_goals
      k_steps
      · rename (_ != _) = true => hne9
        simp at hne9
      · refine hQT _ _ _ _ Y11 F15 N15 (fun q hq => hs15 _ (hs14 _ (List.mem_append_left _ hq))) (fun q hq => hs15 _ (hs14 _ (List.mem_append_right _ hq))) hS11.all ⟨hM11, hl10, hc10, fun z e1 e2 e3 e4 => ?_⟩
        simp only [if_neg e1, if_neg e2, if_neg e3, if_neg e4, hM1]
  · intro m₁ nx h tk J F3 N3
    rw [map_all4 J.hm, hM1] at F3
    dsimp only at F3 N3 ⊢
    refine wpR_step ?_
    k_steps
    unfold Stop9
    obtain ⟨t0, ht0⟩ := ids_at hts (i := 0) (by omega)
    generalize rs[0] = r at ht0
    refine item_listR (N3.isList J.hl) (by decide) (by decide) ht0 ?_
    k_steps
    unfold Stop9
    refine' Spec.use (told_spec c (idA r.n) t0 _ (by show 4 ≤ 100; omega)) ?sB ?sF ?sX ?sN ?sT ?sk ?sd ?su ?_
    ((case sB => assumption); (case sF => assumption); (case sX => assumption); (case sN => assumption); (case sT => assumption); (case sk => first | rfl | assumption); (case sd => (first | (refine' room9 ?rh ?rk; (case rh => assumption); (case rk => rfl)) | (refine' room1 ?rh ?rk; (case rh => assumption); (case rk => rfl)) | omega)); (case su => (first | (refine' room9 ?rh ?rk; (case rh => assumption); (case rk => rfl)) | (refine' room1 ?rh ?rk; (case rh => assumption); (case rk => rfl)) | omega)))
    rintro v n5 h5 t5 ⟨hn5, th, rfl⟩ hs5 F5 N5 K5
    rw [hn5] at N5
    clear hs5 hn5
    have hgz : (hexS (idA r.n)).cps.size = 8 := by rw [hexS_size]; rfl
    generalize hexS (idA r.n) = x at hgz
    dsimp only
    k_steps
    unfold Stop9
    rename Fr _ _ _ _ => F6
    have hS5 : Side (fun _ => True) nx [] a := ⟨by simp, fun _ _ => trivial, fun _ _ => trivial⟩
    replace N5 : News s₁.heap L' h5 (nx ++ []) := by rw [List.append_nil]; exact N5
    refine draw_step J.hM hS5 B F6 X N5 T rfl (by omega) (by omega) (by omega) (fun Y6 h6 t6 i6 tk6 hi6 hM6 hS6 hs6 F7 N7 => ?_)
    have hl6 := hs6 _ J.hl hD1
    have hc6 := hs6 _ J.hc hcA
    have hkZ : ∀ b o, (b, o) ∈ Y6 → NoCell o → (b, o) ∈ offL Y6 [L' + 1] := fun b o hb hn => offL_mem hb fun e => by
      obtain rfl := List.mem_singleton.mp e
      have q1 := (N7 _ (List.mem_append_left _ hb)).1
      have q2 := (N7 _ (List.mem_append_left _ hc6)).1
      obtain rfl := Option.some.inj (q1.symm.trans q2)
      exact hn _ d1
    have hlZ := hkZ _ _ hl6 nc_ids
    have hsto : Sto c.w (offL Y6 [L' + 1]) a rs := Sto.offc ⟨hM6.fr, hM6.ok, hM6.kept⟩ hkZ ⟨D1, _, ⟨hlZ, hD1⟩, hmD⟩
    refine hushL ?_
    intro hG
    obtain ⟨ow, tw, hmw, hdw⟩ := hM6.wd
    k_unfold
    clear hG
    replace hmw := hkZ _ _ hmw (nc_isdict hdw)
    have hZ0 : ∀ p ∈ offL Y6 [L' + 1], p.1 ≠ L' + 1 := offL_ne (by simp)
    replace N7 : News s₁.heap L' h6 ((L' + 1, o1) :: offL Y6 [L' + 1]) := News.sub N7 (fun q hq => by
      rcases List.mem_cons.mp hq with rfl | hq
      · exact List.mem_append_left _ hc6
      · exact List.mem_append_left _ (offL_sub hq))
    generalize offL Y6 [L' + 1] = Z at N7 hZ0 hsto hlZ hmw
    clear hkZ hM6 hS6 hs6 hl6 hc6 N5 F6 hS5 J N3 F3
    dsimp only
    k_steps
    rename _ = Data.cell (some _) => dc
    have hy8 : (Txt.slice x none (some (i6 : Int))).cps.size ≤ 8 := by
      rw [slice_take]
      show (x.cps.toList.take i6).toArray.size ≤ 8
      rw [List.size_toArray, List.length_take, Array.length_toList]
      omega
    generalize Txt.slice x none (some (i6 : Int)) = y at dc hy8
    rename Obj => oc
    replace hmw : (a.wd, ow) ∈ (L' + 1, oc) :: Z := .tail _ hmw
    replace hlZ : (D1, idsL ts cc) ∈ (L' + 1, oc) :: Z := .tail _ hlZ
    replace hsto : Sto c.w ((L' + 1, oc) :: Z) a rs := hsto.to fun q hq => .tail _ hq
    refine hushL ?_
    intro hG
    obtain ⟨⟨m1, hq1⟩, hz1, t4, hz2, t5, n, m2, hq2⟩ := hsto.fr.st
    k_unfold
    clear hG
    refine wpR_step ?_
    k_steps
    unfold Stop9
    refine' Spec.use (prefixed_spec c a rs y _ _ hsto h2) ?sB ?sF ?sX ?sN ?sT ?sk ?sd ?su ?_
    ((case sB => assumption); (case sF => assumption); (case sX => assumption); (case sN => assumption); (case sT => assumption); (case sk => first | rfl | assumption); (case sd => (first | (refine' room9 ?rh ?rk; (case rh => assumption); (case rk => rfl)) | (refine' room1 ?rh ?rk; (case rh => assumption); (case rk => rfl)) | omega)); (case su => (first | (refine' room9 ?rh ?rk; (case rh => assumption); (case rk => rfl)) | (refine' room1 ?rh ?rk; (case rh => assumption); (case rk => rfl)) | omega)))
    intro v n8 h8 t8 zy37 hs8 F8 N8 K8
    refine hushL ?_
    intro hGG
    obtain ⟨D2, ts2, k2, rfl, hn8, hts2⟩ := zy37
    k_unfold
    clear hGG
    rw [hn8] at N8
    clear hn8 hs8
    have hl2 : ts2.length ≤ 20 := by
      have e := congrArg List.length hts2
      simp only [List.length_map] at e
      rw [e]
      exact Nat.le_trans (List.length_filter_le _ _) hsto.ok.len
    rw [pre_all hy8] at hts2
    dsimp only
    k_steps
    unfold Stop9
    rename_i D3 c3 h9' F9 N9 _
    have hl9 : (D1, idsL ts cc) ∈ (D3, W.listOf (ts2.map fun p => Value.bytes p.1 p.2).toArray c3) :: (D2, idsL ts2 k2) :: (L' + 1, oc) :: Z := .tail _ (.tail _ hlZ)
    have hl20 := hsto.ok.len
    have hts1 : ts.length = rs.length := by simpa using congrArg List.length hts
    refine' comp_val (h₀ := s₁.heap) (cutV y) (fun v z => ∃ b t t', v = Value.bytes b t ∧ z = Value.bytes b t') ?jh ?j0 ?j1 ?j2 ?j3 ?j4 ?j9 ?j5
    case jh => rfl
    case j0 => rfl
    case j1 => decide
    case j2 => rfl
    case j3 => decide
    case j4 => rfl
    case j5 => intro _; rfl
    refine nameX_L F9 rfl ?_
    refine ⟨_, _, _, _, _, F9, N9, src_list (N9.isList hl9), by simp only [List.size_toArray, List.length_map]; omega, ?_, ?_, ?_⟩
    · rintro C i v s₃ m₃ hv hn hm hC F3 N3 hk3
      with_reducible refine stopEnd ?_
      refine testsOf_one ?_
      refine hushL ?_
      intro hGG
      obtain ⟨b9, t9, rfl, hb9⟩ := ids_item hts hv
      k_unfold
      clear hGG
      k_steps
      unfold Stop9
      dsimp only at F3 N3
      refine' Spec.use (told_spec c b9 t9 _ (by omega)) ?sB ?sF ?sX ?sN ?sT ?sk ?sd ?su ?_
      ((case sB => assumption); (case sF => assumption); (case sX => assumption); (case sN => assumption); (case sT => assumption); (case sk => first | rfl | assumption); (case sd => (first | (refine' room9 ?rh ?rk; (case rh => assumption); (case rk => rfl)) | (refine' room1 ?rh ?rk; (case rh => assumption); (case rk => rfl)) | omega)); (case su => (first | (refine' room9 ?rh ?rk; (case rh => assumption); (case rk => rfl)) | (refine' room1 ?rh ?rk; (case rh => assumption); (case rk => rfl)) | omega)))
      intro v n8 h8 t8 hv8 hs8 F8 N8 K8
      obtain ⟨hn8', th, rfl⟩ := hv8
      have hn8 : h8.Ns C m₃ := by
        refine hushL ?_
        intro hG
        obtain ⟨o9, es9, ep9, q1, q2⟩ := hn
        k_unfold
        clear hG
        exact ⟨o9, es9, ep9, K8 _ _ q1 (by simp), q2⟩
      rw [hn8'] at N8
      k_steps
      unfold Stop9
      refine len_str (by show ¬ ((y.cps.size : Int) ≥ 2 ^ 63); omega) ?_
      k_steps
      unfold Stop9
      refine slice_head (n := y.cps.size) ⟨_, Heap.get?_push_size _ rfl, rfl, rfl⟩ (by show (hexS b9).cps.size ≤ 1000; rw [hexS_size]; omega) (fun t7 k7 => ?_)
      replace F8 := F8.push { cls := .type "slice", data := .fields #[.none, .int (y.cps.size : Int) (t8 + 1), .none] }
      replace N8 : News s₁.heap L' (h8.push { cls := .type "slice", data := .fields #[.none, .int (y.cps.size : Int) (t8 + 1), .none] }) _ := fun q hq => ⟨Heap.get?_push_of_some _ (N8 q hq).1, (N8 q hq).2⟩
      have hn7 : (h8.push { cls := .type "slice", data := .fields #[.none, .int (y.cps.size : Int) (t8 + 1), .none] }).Ns C m₃ := by
        refine hushL ?_
        intro hG
        obtain ⟨o9, es9, ep9, q1, q2⟩ := hn8
        k_unfold
        clear hG
        exact ⟨o9, es9, ep9, Heap.get?_push_of_some _ q1, q2⟩
      dsimp only
      k_steps
      exact unstop ⟨cut_eq y b9, _, _, rfl, fun b o e => Heap.get?_push_of_some _ (K8 b o e (by simp))⟩
    · intro C i v s₃ m₃ zz11 hn hm hC F3 N3 hk3
      refine hushL ?_
      intro hG
      obtain ⟨hv, hv2⟩ := zz11
      k_unfold
      clear hG
      with_reducible refine stopEnd ?_
      k_steps
      refine hushL ?_
      intro hGG
      obtain ⟨b9, t9, rfl, hb9⟩ := ids_item hts hv
      k_unfold
      clear hGG
      exact unstop ⟨⟨_, _, _, rfl, rfl⟩, _, _, rfl, fun _ _ e => e⟩
    · intro D h' tk ys ep vs F2 N2 hD hL hlen hP hF hk
      have hvs : vs = ts.map fun p => Value.bytes p.1 p.2 := by
        refine List.ext_getElem? fun j => ?_
        by_cases hj : j < vs.length
        · rw [← List.getElem?_toArray (xs := ts.map _), hP j vs[j] (List.getElem?_eq_getElem hj), List.getElem?_eq_getElem hj]
        · rw [List.getElem?_eq_none (by omega), List.getElem?_eq_none (by rw [hlen] at hj; simpa using hj)]
      refine hushL ?_
      intro hG
      obtain ⟨ts', e1, e2⟩ := paired_bytesT hF
      k_unfold
      clear hG
      have e3 : listOf ys ep = idsL ts' ep := by unfold idsL; rw [← e1]
      have hts' : ts'.map (fun p => p.1.toList) = (rs.filter fun r => cutB y (idA r.n)).map fun r => idL r.n := by
        rw [e2, hvs, List.filter_map, List.map_map, show (fun r : Rec => cutB y (idA r.n)) = (fun l : List UInt8 => cutB y l.toArray) ∘ (fun r : Rec => idL r.n) from rfl, ← List.filter_map, ← hts, List.filter_map]
        rfl
      rw [e3] at N2
      clear hF hP hvs e2 e1 e3 hk hD
      dsimp only at F2 N2
      refine ids_eq (N2.isList (.tail _ (.head _))) (N2.isList (.head _)) (hts2.trans hts'.symm) (by show 4 + 3 < cLine; decide) _ _ _ _ ?_
      refine hQ9 _ _ ⟨rfl, F2.keep, rfl, rfl⟩
end J_K2
example : True := by
  k_with_none
  (k_with "call ref" => refine stop_ref rfl ?_)
  (k_with "eval ListComp" => with_reducible refine stopP0 ?_)
  (k_with "exec For" => with_reducible refine stopP1 ?_)
  (k_with "exec Assign cons ListComp" => with_reducible refine stopP2 ?_)
  (k_with "call type:bytes" => (with_reducible show wpAny _ _ (call (Value.type "bytes") [Value.bytes _ _]) _ _ _; refine bytes_bytes ?_))
  (k_with "subscriptTail" => (with_reducible show wpAny _ _ (subscriptTail _ _ (Value.ref _) (Value.str _ _)) _ _ _; refine' kda_item (knd := PySem.strKind _ _) ?iN ?im ?ih (strKind_is _ _ _ _) ?iv ?_; (case iN => assumption); (case im => assumption); (case ih => assumption); (case iv => with_unfolding_all rfl)))
  (k_with "binaryOp Add bytes bytes" => ((with_reducible show wpAny _ _ (binaryOp Operator.Add (Value.bytes _ _) (Value.bytes _ _)) _ _ _); (refine KBy.add_bytes (by first | assumption | ((try simp only [Array.size_append, List.size_toArray, List.length_cons, List.length_nil]); omega)) ?_); intro _ _))
  (k_with "call builtin:len" => ((with_reducible show wpAny _ _ (call (Value.builtin "len") [Value.bytes _ _]) _ _ _); (refine len_bytes (by first | assumption | omega) ?_)))
  trivial
example {M : Model} {A : Around} {Q : Unit → Shared → Prop} {E : Value → Shared → Prop} {s : Shared} : wpAny M A (pure ()) Q E s ∨ True := by w_top off; first | (left; walk1; done) | (right; trivial)
section J_K3
theorem post9 (args : List WData) : PySem.Challenge.rw_pb0121_01.row.toRowW.claim.post args (WData.bool true) args = true := by
  show (WShape.has [] (.bool true) .bool && WTm.holds [] (.eq .res (.lit (.bool true))) { args := args, res := some (.bool true), after := args }) = true
  simp [WShape.has, WTm.holds, WTm.value]
  exact ⟨⟨.bool, by first | decide | (simp [WShape.arms]), rfl⟩, by first | rfl | decide | simp [same]⟩
theorem lawR : LawR := by
  intro w s₀ s₁ mg mb G X hgens args vals as hpre hlay hrd hwl hlo
  refine hushL ?_
  intro hGG
  obtain ⟨l, vs, ns, rfl, hl, hi, hn⟩ := args9 (w := w) (s₀ := s₀) args vals as hpre hlay hrd hwl hlo
  k_unfold
  clear hGG
  have T : Top hd.view_1 LO (ExcName.means s₀.heap) mg mb s₁.heap := G.T
  refine wpR_mono (law_wp ⟨w, ExcName.means s₀.heap, mg, mb⟩ s₁ l vs ns X T hl hi hn) (fun v s' h => ?_)
  refine hushL ?_
  intro hGG
  obtain ⟨rfl, hk, hgn, hos⟩ := h
  k_unfold
  clear hGG
  refine ⟨.inl ⟨_, .bool true, [], rfl, fun _ => rfl, .bool _, post9 args, fun _ => ⟨List.nodup_nil, by simp⟩⟩, .of_keep hk, hos, ?_⟩
  rw [hgn, hgens]
  exact .of_eq rfl
theorem all9 : PySem.Challenge.rw_pb0121_01.Holds := holds9 lawR
end J_K3
end Mine
theorem PySem.Challenge.cw_pb0121_01_holds : PySem.Challenge.rw_pb0121_01.Holds := by
  exact Mine.all9
