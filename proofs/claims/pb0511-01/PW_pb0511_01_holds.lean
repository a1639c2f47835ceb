import PyProof.Rows.All
import Wide.All
import OpenK.AllK
import Wide.FinOn
import PyProof.FactsAll.subtypes_3
import Lean
import PySem.Challenge.RW_pb0511_01
set_option Elab.async false
set_option linter.all false

section W0S
open PySem PySem.W PySem.Calls PyProof.Rows
namespace Mine
open Sem (wp)

/-! ## wpC: wp over the contexts whose stack holds no decoder -/

noncomputable def holdsBuf (c : Code) : Bool := match c with
  | .builtin id ⟨_ :: _, _⟩ => Builtin.Bytes.decodersThatHold.contains id
  | _ => false

noncomputable def Clean (Γ : Ctx) : Prop := holdsBuf Γ.code = false ∧ ∀ x ∈ Γ.below, holdsBuf x.1 = false

theorem Clean.enter {Γ : Ctx} (h : Clean Γ) {c : Code} (hc : holdsBuf c = false) (hd : Option Value) (p : Pos) : Clean (Γ.enter c hd p) :=
  ⟨hc, fun x hx => by
    rcases List.mem_cons.mp hx with rfl | hx
    · exact h.1
    · exact h.2 x hx⟩
theorem Clean.goto {Γ : Ctx} (h : Clean Γ) {c : Code} (hc : holdsBuf c = false) : Clean (Γ.goto c) := ⟨hc, h.2⟩

noncomputable def wpC {α : Type} (M : Model) (A : Around) (t : Sem α) (Q : α → Shared → Prop) (E : Value → Shared → Prop) (s : Shared) : Prop :=
  ∀ Γ p, Γ.In A → Clean Γ → wp M Γ t (fun a _ s' => Q a s') (fun e _ s' => E e s') p s
noncomputable def codeC (M : Model) (A : Around) (c : Code) (R : Result → Shared → Prop) (s : Shared) : Prop :=
  ∀ Γ p, Γ.code = c → Γ.Below A → Clean Γ → wpCode M Γ R p s

section
variable {α β : Type} {M : Model} {A : Around} {E : Value → Shared → Prop} {s : Shared}

theorem wpC_of {t : Sem α} {Q : α → Shared → Prop} (h : wpAny M A t Q E s) : wpC M A t Q E s := fun Γ p hΓ _ => h Γ p hΓ
theorem codeC_of {c : Code} {R : Result → Shared → Prop} (h : codeAny M A c R s) : codeC M A c R s := fun Γ p hc hΓ _ => h Γ p hc hΓ

theorem wpC_mono {t : Sem α} {Q Q' : α → Shared → Prop} {E' : Value → Shared → Prop} (h : wpC M A t Q E s)
    (hQ : ∀ a s, Q a s → Q' a s) (hE : ∀ e s, E e s → E' e s) : wpC M A t Q' E' s :=
  fun Γ p hΓ hc => Sem.wp_mono M Γ t (fun a _ s => hQ a s) (fun e _ s => hE e s) p s (h Γ p hΓ hc)

theorem wpC_bind {m : Sem α} {f : α → Sem β} {Q : β → Shared → Prop} (h : wpC M A m (fun a s' => wpC M A (f a) Q E s') E s) :
    wpC M A (m >>= f) Q E s := fun Γ p hΓ hc => by
  rw [Sem.wp_bind']
  exact Sem.wp_mono M Γ m (fun a p' s' h' => h' Γ p' hΓ hc) (fun _ _ _ h' => h') p s (h Γ p hΓ hc)

theorem wpC_pure {a : α} {Q : α → Shared → Prop} (h : Q a s) : wpC M A (pure a) Q E s := fun _ _ _ _ => h
theorem wpC_holding {vs : List Value} {m : Sem α} {Q : α → Shared → Prop} (h : wpC M A m Q E s) : wpC M A (holding vs m) Q E s :=
  fun Γ p hΓ hc => by rw [Sem.wp_holding]; exact h Γ p hΓ hc
theorem wpC_keep {vs : List Value} {m : Sem α} {Q : α → Shared → Prop} (h : wpC M A m Q E s) : wpC M A (m.keep vs) Q E s :=
  fun Γ p hΓ hc => by rw [Sem.wp_keep]; exact h Γ p hΓ hc
theorem wpC_standAt {pos : Pos} {Q : Unit → Shared → Prop} (h : Q () s) : wpC M A (standAt pos) Q E s := fun _ _ _ _ => h
theorem wpC_operate {vs : List Value} {m : Sem Value} {Q : Value → Shared → Prop} (h : wpC M A m Q E s) : wpC M A (operate vs m) Q E s :=
  fun Γ p hΓ hc => by rw [Sem.wp_operate]; exact h Γ p hΓ hc
theorem wpC_onRaise {m : Sem α} {k : Value → Sem Unit} {Q : α → Shared → Prop}
    (h : wpC M A m Q (fun e s' => wpC M A (k e) (fun _ s'' => E e s'') E s') s) : wpC M A (m.onRaise k) Q E s := fun Γ p hΓ hc => by
  rw [Sem.wp_onRaise]
  exact Sem.wp_mono M Γ m (fun _ _ _ h' => h') (fun e p' s' h' => h' Γ p' hΓ hc) p s (h Γ p hΓ hc)

theorem codeC_mono {c : Code} {R R' : Result → Shared → Prop} (h : codeC M A c R s) (hR : ∀ r s, R r s → R' r s) : codeC M A c R' s :=
  fun Γ p hc hΓ hk => wpCode_mono hR (h Γ p hc hΓ hk)

theorem wpC_runValue {c : Code} {Q : Value → Shared → Prop} (hb : holdsBuf c = false)
    (hc : codeC M A c (fun r s' => match r with | .ok (.ret v) => Q v s' | .ok _ => False | .error e => E e s') s) :
    wpC M A (runValue c) Q E s := fun Γ p hΓ hk => by rw [Sem.wp_runValue]; exact hc _ p rfl (hΓ.enter c none p (by intro x; cases x)) (hk.enter hb none p)
theorem wpC_run {c : Code} {Q : Flow → Shared → Prop} (hb : holdsBuf c = false)
    (hc : codeC M A c (fun r s' => match r with | .ok f => Q f s' | .error e => E e s') s) : wpC M A (run c) Q E s :=
  fun Γ p hΓ hk => by
    rw [Sem.wp_run]
    exact hc _ p rfl (hΓ.enter c none p (by intro x; cases x)) (hk.enter hb none p)
theorem wpC_call {f : Value} {pos : List Value} {kw : List (Str × Value)} {Q : Value → Shared → Prop}
    (hc : codeC M A (.call f ⟨pos, kw⟩) (fun r s' => match r with | .ok (.ret v) => Q v s' | .ok _ => False | .error e => E e s') s) :
    wpC M A (call f pos kw) Q E s := wpC_runValue rfl hc

theorem codeC_of_tree {c : Code} {R : Result → Shared → Prop}
    (h : wpC M (A.under c) (M.den c) (fun fin s' => match fin with | .done f => R (.ok f) s' | .again c' => c'.quiet = true ∧ holdsBuf c' = false ∧ codeC M A c' R s')
      (fun e s' => R (.error e) s') s) : codeC M A c R s := fun Γ p hc hΓ hk => by
  rw [wpCode_iff_wp, hc]
  refine Sem.wp_mono M Γ _ (fun fin p' s' h' => ?_) (fun _ _ _ h' => h') p s (h Γ p (hc ▸ hΓ.in) hk)
  cases fin with
  | done f => exact h'
  | again c' => exact ⟨h'.1, h'.2.2 (Γ.goto c') p' rfl (hΓ.goto c') (hk.goto h'.2.1)⟩

theorem codeC_loop {c : Code} {R : Result → Shared → Prop} (hq : c.quiet = true) (I : Nat → Shared → Prop)
    (turn : ∀ n s, I n s → wpC M (A.under c) (M.den c)
      (fun fin s' => match fin with | .done f => R (.ok f) s' | .again c' => c' = c ∧ ∃ m, m < n ∧ I m s') (fun e s' => R (.error e) s') s)
    (hb : holdsBuf c = false) (n : Nat) (h : I n s) : codeC M A c R s := by
  induction n using Nat.strongRecOn generalizing s with
  | ind n ih =>
    refine codeC_of_tree (wpC_mono (turn n s h) (fun fin s' hf => ?_) fun _ _ h' => h')
    cases fin with
    | done f => exact hf
    | again c' => obtain ⟨rfl, m, hm, hI⟩ := hf; exact ⟨hq, hb, ih m hm hI⟩

/-- the one place where cleanness is asked -/
theorem wpC_exported {a : Addr} {Q : Bool → Shared → Prop} (hg : A.guards = some []) (h : Q false s) : wpC M A (Builtin.Bytes.exported (.ref a)) Q E s := fun Γ p hΓ hk => by
  have hgu : guardsOf ((Γ.code, p) :: Γ.below) = [] := by rw [guardsOf_cons]; exact hΓ.2.2.2.1 [] hg
  have key : ∀ x ∈ (Γ.code, p) :: Γ.below, holdsBuf x.1 = false ∧ x.1.isGuard = false := by
    intro x hx
    refine ⟨?_, ?_⟩
    · rcases List.mem_cons.mp hx with rfl | hx
      · exact hk.1
      · exact hk.2 x hx
    · cases hi : x.1.isGuard with
      | false => rfl
      | true =>
        have : x.1 ∈ guardsOf ((Γ.code, p) :: Γ.below) := by
          unfold guardsOf
          exact List.mem_filter.mpr ⟨List.mem_map.mpr ⟨x, hx, rfl⟩, hi⟩
        rw [hgu] at this; cases this
  have hall : ∀ b, b = false → Q b s := fun b e => e ▸ h
  show Q (((Γ.code, p) :: Γ.below).any _) s
  refine hall _ (List.any_eq_false.mpr fun x hx => ?_)
  obtain ⟨h1, h2⟩ := key x hx
  obtain ⟨c, q⟩ := x
  have off : ∀ b : Bool, b = false → ¬ b = true := fun b e => by rw [e]; exact Bool.false_ne_true
  cases c with
  | builtin id args =>
    obtain ⟨pos, kw⟩ := args
    by_cases e1 : id = "bytearray.__contains__"
    · subst e1
      have h2 : guardIds.contains "bytearray.__contains__" = false := h2
      exact absurd h2 (by decide)
    by_cases e2 : id = "bytearray.__mod__"
    · subst e2
      have h2 : guardIds.contains "bytearray.__mod__" = false := h2
      exact absurd h2 (by decide)
    by_cases e3 : id = "bytearray.__rmod__"
    · subst e3
      have h2 : guardIds.contains "bytearray.__rmod__" = false := h2
      exact absurd h2 (by decide)
    by_cases e4 : id = "_struct.pack_into.held"
    · subst e4
      have h2 : guardIds.contains "_struct.pack_into.held" = false := h2
      exact absurd h2 (by decide)
    by_cases e5 : id = "bytearray.find.held"
    · subst e5
      have h2 : guardIds.contains "bytearray.find.held" = false := h2
      exact absurd h2 (by decide)
    refine off _ ?_
    delta Builtin.Bytes.exported.match_1
    refine (dif_neg e1).trans ((dif_neg e2).trans ((dif_neg e3).trans ((dif_neg e4).trans ((dif_neg e5).trans ?_))))
    cases pos with
    | nil => rfl
    | cons v r =>
      have h1 : Builtin.Bytes.decodersThatHold.contains id = false := h1
      show (_ && Builtin.Bytes.decodersThatHold.contains id) = false
      rw [h1, Bool.and_false]
  | _ => exact Bool.false_ne_true
end
end Mine
end W0S

section H0S
open PySem PySem.W PySem.Calls PyProof.Rows
namespace Mine
open Sem (wp)

noncomputable abbrev callerCtx : Ctx := ⟨.builtin "claim.caller" {}, none, none, [], none⟩
theorem callerCtx_clean : Clean callerCtx := ⟨rfl, fun _ h => nomatch h⟩

noncomputable abbrev WalkC (q : Program) (loose : List Str) (XP : (Str → Option Value) → Heap → Prop) (YP : World → Heap → Prop) (r : RowW) (d : DefRec) (kwd : List (Str × Expr)) : Prop :=
  ∀ (w : World) (s₀ s₁ : Shared) (mg mb : Str → Option Value), Ground q loose r.records XP w s₀ mg mb s₁.heap → YP w s₁.heap → ∀ (a : Addr) (o : Obj) (pm cd doc dV kV : Value), s₁.heap.get? a = some o →
    o.data = .func { docDef d.name d.params d.body d.scope pm cd doc with defaults := dV, kwdefaults := kV } → s₁.heap.CodeRec cd d.name → Dflts mg s₁.heap d.params kwd dV kV → mg d.name = some (.ref a) → s₁.gens = #[] →
    ∀ (args : List WData) (vals : List Value) (as : List Addr), r.claim.pre args = true → WData.layableAll args = true → ReadsAllW r.records (classAt s₀.heap) s₁.heap vals args as → WellAll w.params s₁.heap vals args → (∀ a ∈ as, (a == sysModules) = false) →
      wpC (model r.prog w) callerA (call (.ref a) vals) (fun v s' => GoodWG r.claim (classAt s₀.heap) (ExcName.means s₀.heap) args s₁ (.ok (.ret v)) s')
        (fun e s' => GoodWG r.claim (classAt s₀.heap) (ExcName.means s₀.heap) args s₁ (.error e) s') s₁

/-- the run of the claim's own thread, whose stack is 'claim.caller' alone -/
theorem caller_runs {c : ClaimW} {tree : List Value → Sem Fin} {w : World} {s : Shared} {free : Addr → Prop} {gens : Prop} {kept : Heap → Prop} (hz : s.asleep) (hgens : s.gens = #[])
    (hspec : ∀ args, c.pre args = true → WData.layableAll args = true → ∀ ord : List DictEntry → List DictEntry, (∀ l, (ord l).Perm l) →
      ∃ vs s₁, layAllW c.records (classAt s.heap) w.params ord args s = some (vs, s₁) ∧
        wpC (model c.prog w) callerA (tree vs) (fun fin s' => ∃ f, fin = .done f ∧ (c.Ends s args vs s₁ (.ok f) s' ∧ s'.os = s.os ∧ AllBare s'.gens ∧ kept s'.heap))
          (fun e s' => c.Ends s args vs s₁ (.error e) s' ∧ s'.os = s.os ∧ AllBare s'.gens ∧ kept s'.heap) s₁) :
    c.CallFrom (fun vs => ⟨tree vs, .builtin "claim.caller" {}, default, []⟩) w free gens kept s := by
  intro args hpre hlay ord hord
  obtain ⟨vs, s₁, hlaid, hcode⟩ := hspec args hpre hlay ord hord
  have hal := layAllW_rest _ _ _ hlaid
  have hwp : wp (model c.prog w) callerCtx (tree vs)
      (Sem.finPost (model c.prog w) callerCtx fun r s' => (c.Ends s args vs s₁ r s' ∧ s'.os = s.os ∧ kept s'.heap) ∧ leftWithCleanup s'.gens = false)
      (fun e _ s' => (c.Ends s args vs s₁ (.error e) s' ∧ s'.os = s.os ∧ kept s'.heap) ∧ leftWithCleanup s'.gens = false) default s₁ := by
    refine Sem.wp_mono _ _ _ ?_ ?_ _ _ (hcode callerCtx default caller_in callerCtx_clean)
    · rintro fin p' s' ⟨f, rfl, e1, e2, e3, e4⟩
      exact ⟨⟨e1, e2, e4⟩, leftWithCleanup_false_of_bare e3⟩
    · rintro e p' s' ⟨e1, e2, e3, e4⟩
      exact ⟨⟨e1, e2, e4⟩, leftWithCleanup_false_of_bare e3⟩
  obtain ⟨k, r, s', s'', hsched, hrun, hfo, hE⟩ := wp_halts_full (M := model c.prog w) (Shared.asleep_of_life hal.2.2.2 hz) hwp
  obtain ⟨eh, _, _, eo, _⟩ := Shared.forget_eq hfo
  obtain ⟨hcase, hos, hkp⟩ := hE
  have hcase := hcase.congr eh
  rw [← eh] at hkp
  rw [← eo] at hos
  have hlife : s''.heap.life = s.heap.life := (runN_life _ _ _ hrun).trans hal.2.2.2
  refine ⟨vs, s₁, hlaid, k, _, s'', hsched, ?_, (fun _ i x hx => by rw [hgens] at hx; simp at hx), hkp, by rw [hlife], Shared.rest_eq hos⟩
  exact hcase.imp (fun h => h.imp fun v x => ⟨by rw [x.1]; rfl, x.2.1, x.2.2.1, x.2.2.2.1, fun b o y _ => x.2.2.2.2.1 b o y, x.2.2.2.2.2⟩)
    (fun h => h.imp fun e h => h.imp fun ob h => h.imp fun cls x => ⟨by rw [x.1]; rfl, x.2.1, x.2.2.1, x.2.2.2.1, x.2.2.2.2.1, fun b o y _ => x.2.2.2.2.2 b o y⟩)

namespace Head
/-- the head with a walk over clean contexts (its place in the namespace: so that the library's own line takes it) -/
theorem PySem.W.holds_open {r : OpenRow} {q : Program} {loose : List Str} {Xt : Shared → Bool} {XP : (Str → Option Value) → Heap → Prop} {α : Type} {Yf : Shared → α} {Ya : World → α} {YP : World → Heap → Prop} {d : DefRec} {kwd : List (Str × Expr)} {N : Nat}
    (left : LeftO r.prog q loose Xt Yf Ya N) (hY : ∀ w s, Yf s = Ya w → YP w s.heap) (hYk : ∀ w h h', YP w h → (∀ b o, h.get? b = some o → h'.get? b = some o) → YP w h')
    (hX : ∀ s, Xt s = true → XP (s.heap.nsMap mainGlobals) s.heap) (hXk : ∀ mg h h', XP mg h → (∀ b o, h.get? b = some o → h'.get? b = some o) → XP mg h')
    (hdef : defOf q r.name = some (d, kwd)) (hp : r.prog.theDef r.name = some (d.params, d.body, d.scope)) (hk : kwWritten? d.params.kwonlyargs d.params.kw_defaults = some kwd) (hRf : ∀ s, Xt s = true → RecFacts r.records s.heap) (hwr : (!r.writes || r.records.isEmpty) = true)
    (k1 : r.wellSaid = true) (ok : (chainsOk q && opensWell r.prog && (frees r.toRowW && r.within.isEmpty)) = true) (hb : r.prog.bare) (hw : r.toRowW.promised)
    (call : WalkC q loose XP YP r.toRowW d kwd) : r.Holds := by
  refine ⟨k1, hw, ?_⟩
  obtain ⟨ok, k5⟩ := Bool.and_eq_true_iff.mp ok
  obtain ⟨hch, o1⟩ := Bool.and_eq_true_iff.mp ok
  obtain ⟨k5, k6⟩ := Bool.and_eq_true_iff.mp k5
  obtain ⟨hsame, hu, ha, hap, hm⟩ := frees_parts k5
  have hi := ident_freeW hu ha hap
  have hwi : r.toRowW.claim.within = [] := List.isEmpty_iff.mp k6
  refine ⟨⟨hb, o1, by show r.makers.map _ = []; rw [hm]; rfl⟩, hw.witness, fun w => ⟨(left.behind hX hch w).1, fun s' hs' => ?_⟩⟩
  obtain ⟨s₀, hf, hg0, s, hT, hz, hgens, hg, G1, y⟩ := (left.behind (XP := fun mg h => XP mg h ∧ RecFacts r.records h) (fun s hs => ⟨hX s hs, hRf s hs⟩) hch w).2 s' hs'
  have G0 : Ground q loose [] XP w s (s.heap.nsMap mainGlobals) (s.heap.nsMap builtinsNs) s.heap := ⟨G1.T, G1.B, G1.D, G1.TE, G1.TD, G1.W, G1.X.1, G1.cls, G1.has, G1.apart, G1.once, G1.K⟩
  have RF := G1.X.2
  refine ⟨s₀, hf, hg0, s, hT, fun n hn => ?_, RF.1, RF.2.1, ?_⟩
  · obtain rfl : n = r.name := by split at hn <;> simp_all
    exact pinned_of_view hg G0 hdef hp hk
  have hgens : s.gens = #[] := Array.eq_empty_of_size_eq_zero (beq_iff_eq.mp hgens)
  have G : Ground q loose r.records XP w s _ _ s.heap := RF.ground G0
  refine caller_runs (c := r.toRowW.claim) (tree := fun vs => do match ← nsGet mainNs r.name with
      | some f => do ret (← PySem.call f vs)
      | none => unsupported "claim.caller:no-such-global") hz hgens fun args hpre hlay ord hord => ?_
  obtain ⟨⟨vs, s₁⟩, hlaid⟩ := Option.isSome_iff_exists.mp (layAllW_isSome (P := w.params) (ord := ord) G.has args r.args s (pre_splitW hpre).1)
  have keeps := layAllW_keeps _ _ _ hlaid
  have hal := layAllW_rest _ _ _ hlaid
  obtain ⟨as, hrd, hin, hold⟩ := reads_layAllW hord _ _ _ hlaid hlay s₁.heap (fun _ _ e => e)
  have L : Laid r.records w s s₁ args vs as := ⟨⟨ord, hord, hlaid⟩, hrd, hin, hold, keeps, hal.1.trans hgens, hal.2.2.1⟩
  have G₁ := G.keeps hXk keeps
  obtain ⟨a, o, pm, cd, doc, dV, kV, h1, h2, h3, h4, h5⟩ := G₁.fn hdef
  have h := call w s s₁ _ _ G₁ (hYk _ _ _ (hY w s y) keeps) a o pm cd doc dV kV h2 h3 h4 h5 (defOf_name hdef ▸ h1) L.gens args vs as hpre hlay L.reads L.well (L.low G.low)
  refine ⟨vs, s₁, hlaid, wpC_bind (wpC_of (wpAny_nsGet G₁.T.g ?_))⟩
  rw [h1]
  refine wpC_bind (wpC_mono h (fun v s' g => wpC_pure ⟨_, rfl, ?_⟩) fun e s' g => ?_)
  all_goals
    have z := g.laid (c := r.toRowW.claim) hsame hwi hi L
    exact ⟨z.1, z.2.1, z.2.2, fun q => ⟨namesKept_of hT hg r.keeps keeps g.2.1.old, noTable hwr q⟩⟩
set_option maxRecDepth 100000 in
set_option maxHeartbeats 8000000 in
open_top hd for PySem.Challenge.rw_pb0511_01
end Head
end Mine
end H0S

section B0S
open PySem PySem.W PySem.Calls PyProof.Rows
namespace Mine
noncomputable section

/-- what every def finds beneath it -/
structure Base (w : World) (mean : ExcName → Option Value) (mg mb : Str → Option Value) (h : Heap) : Prop where
  X : (Head.hd.heap_39 w.params).In h
  T : Top Head.hd.view_39 (looseW Head.hd.view_39 []) mean mg mb h

/-- the heap grew: whatever stood still stands -/
noncomputable def Ext (h h' : Heap) : Prop := ∀ b o, h.get? b = some o → h'.get? b = some o
theorem Ext.refl (h : Heap) : Ext h h := fun _ _ e => e
theorem Ext.trans {h h' h'' : Heap} (x : Ext h h') (y : Ext h' h'') : Ext h h'' := fun b o e => y b o (x b o e)
theorem Base.keeps {w mean mg mb} {h h' : Heap} (B : Base w mean mg mb h) (k : Ext h h') : Base w mean mg mb h' := ⟨B.X.keeps k, B.T.keeps k⟩

/-- a call's end: the state is the old one with a grown heap and more tokens -/
noncomputable def Ends (s : Shared) (P : Value → Heap → Prop) (v : Value) (s' : Shared) : Prop := ∃ h tk, s' = { s with heap := h, toks := tk } ∧ Ext s.heap h ∧ P v h
noncomputable abbrev never : Value → Shared → Prop := fun _ _ => False

noncomputable abbrev arnd (dp un : Nat) (fr : Option (List Env)) : Around := { handled := none, depth := dp, frames := fr, guards := some [], units := un }

section
variable {w : World} {mean : ExcName → Option Value} {mg mb : Str → Option Value} {s : Shared} {dp un : Nat} {fr : Option (List Env)}
  {name qual : Str} {params : Arguments} {body : List Stmt} {scope : Scope} {doc pm cdv ct oc : Value} {an od : Option Addr} {osl : Array (Option Value)} {f : Addr} {vs : List Value} {P : Value → Heap → Prop}

/-- entering a def of the text -/
theorem enter (binds : List (Str × Value)) (B : Base w mean mg mb s.heap) (ho : (Head.hd.heap_39 w.params).lookup f = some ⟨oc, od, .func (fnOf name qual params body scope .none .none doc pm an cdv ct), osl⟩) (hcd : codeIn (Head.hd.heap_39 w.params) cdv qual = true) (hroom : dp < 1000)
    (hbind : bindArgs (fnOf name qual params body scope .none .none doc pm an cdv ct) ⟨vs, []⟩ = pure binds) (hloc : (binds.all fun x => decide (scope.names.lookup x.1 = some .local)) = true)
    (h : ∀ (fr' : Option (List Env)) (h₀ : Heap) (L : Addr) (h₁ : Heap) (tk : Nat), Base w mean mg mb h₀ → Fr h₀ L h₁ (fun y => binds.reverse.lookup y) → News h₀ L h₁ [] → (∀ b o, s.heap.get? b = some o → h₀.get? b = some o) →
      wpAny (model PySem.Challenge.pw_pb0511_01 w) (arnd (dp + 1) (un + 3) fr') (execs body (envOf qual scope L f cdv)) (fun fl s' => Ends { s with heap := h₀ } P (match fl with | .ret v => v | _ => .none) s') never { s with heap := h₁, toks := tk })
    (hcell : (scope.names.all fun x => decide (x.2 ≠ .cell)) = true := by rfl) (hco : scope.isCoroutine = false := by rfl) (hgen : scope.isGenerator = false := by rfl) (hk : scope.kind = .function := by rfl) :
    wpAny (model PySem.Challenge.pw_pb0511_01 w) (arnd dp un fr) (call (.ref f) vs) (Ends s P) never s := by
  refine wpAny_call (codeAny_call_def (fd := fnOf name qual params body scope .none .none doc pm an cdv ct) (body := body) (binds := binds) hroom (B.X _ _ ho) rfl B.T.nolimit (codeRec_of B.X hcd) rfl (BindsTo.of_eq hbind)
    (fun x hx => of_decide_eq_true (List.all_eq_true.mp hcell x hx)) (locs hloc) (fun h₁ hns hk₁ => ?_) hco hgen hk)
  refine wpAny_mono (h (fr.map (envOf qual scope s.heap.objs.size f cdv :: ·)) s.heap s.heap.objs.size h₁ _ B ⟨hns, hk₁, Nat.le_refl _⟩ News.nil (fun _ _ e => e)) (fun fl s' q => ?_) (fun _ _ x => x.elim)
  obtain ⟨h, tk, rfl, e, p⟩ := q
  cases fl <;> exact ⟨h, tk, rfl, e, p⟩
end

end
end Mine
end B0S

section R0S
open PySem PySem.W PySem.Calls PyProof.Rows Builtin
set_option maxRecDepth 100000
namespace Mine

/-! ## methods of bytes -/
theorem slot_bytes_strip : Slot "bytes" "strip" "bytes.strip" :=
  .of (owner := "bytes") (n := "strip") (by rw [typeLookup_type, builtinLookup_eq_fast]; kernel_rfl) (by decide +kernel) (by decide +kernel) (by decide +kernel)
    (by first | exact .inl (by decide +kernel) | exact .inr (by decide +kernel)) (by rw [isSubtype_type]; kernel_rfl)
theorem type_bytes_strip : typeOf (.builtin "bytes.strip") = pure (.type "method_descriptor") := by show builtinType _ = _; rw [builtinType_eq_fast]; kernel_rfl
theorem entry_bytes_strip : entryFor table "bytes.strip" = some Builtin.«bytes.strip» := entryFor_of_tree (by kernel_rfl)
theorem args_bytes_strip_2 (a b : Value) : argsOk "bytes.strip" ⟨[a, b], []⟩ := by
  unfold argsOk; rw [signature?_of (id := "bytes.strip") (n := ['p', 'i', 'r', 't', 's']) (o := ['s', 'e', 't', 'y', 'b']) (by kernel_rfl) FB.owner_bytes]; kernel_rfl
theorem slot_bytes_replace : Slot "bytes" "replace" "bytes.replace" :=
  .of (owner := "bytes") (n := "replace") (by rw [typeLookup_type, builtinLookup_eq_fast]; kernel_rfl) (by decide +kernel) (by decide +kernel) (by decide +kernel)
    (by first | exact .inl (by decide +kernel) | exact .inr (by decide +kernel)) (by rw [isSubtype_type]; kernel_rfl)
theorem type_bytes_replace : typeOf (.builtin "bytes.replace") = pure (.type "method_descriptor") := by show builtinType _ = _; rw [builtinType_eq_fast]; kernel_rfl
theorem entry_bytes_replace : entryFor table "bytes.replace" = some Builtin.«bytes.replace» := entryFor_of_tree (by kernel_rfl)
theorem args_bytes_replace_3 (a b c : Value) : argsOk "bytes.replace" ⟨[a, b, c], []⟩ := by
  unfold argsOk; rw [signature?_of (id := "bytes.replace") (n := ['e', 'c', 'a', 'l', 'p', 'e', 'r']) (o := ['s', 'e', 't', 'y', 'b']) (by kernel_rfl) FB.owner_bytes]; kernel_rfl
theorem slot_bytes_split : Slot "bytes" "split" "bytes.split" :=
  .of (owner := "bytes") (n := "split") (by rw [typeLookup_type, builtinLookup_eq_fast]; kernel_rfl) (by decide +kernel) (by decide +kernel) (by decide +kernel)
    (by first | exact .inl (by decide +kernel) | exact .inr (by decide +kernel)) (by rw [isSubtype_type]; kernel_rfl)
theorem type_bytes_split : typeOf (.builtin "bytes.split") = pure (.type "method_descriptor") := by show builtinType _ = _; rw [builtinType_eq_fast]; kernel_rfl
theorem entry_bytes_split : entryFor table "bytes.split" = some Builtin.«bytes.split» := entryFor_of_tree (by kernel_rfl)
theorem args_bytes_split_2 (a b : Value) : argsOk "bytes.split" ⟨[a, b], []⟩ := by
  unfold argsOk; rw [signature?_of (id := "bytes.split") (n := ['t', 'i', 'l', 'p', 's']) (o := ['s', 'e', 't', 'y', 'b']) (by kernel_rfl) FB.owner_bytes]; kernel_rfl

/-- the strip of a text by a set of signs -/
noncomputable def stripL (c : List UInt8) (b : List UInt8) : List UInt8 := ((b.dropWhile c.contains).reverse.dropWhile c.contains).reverse
theorem dropWhile_length_le (p : UInt8 → Bool) : ∀ l : List UInt8, (l.dropWhile p).length ≤ l.length
  | [] => Nat.le_refl _
  | a :: l => by
    rw [List.dropWhile_cons]
    split
    · exact Nat.le_succ_of_le (dropWhile_length_le p l)
    · exact Nat.le_refl _
theorem stripL_length (c b : List UInt8) : (stripL c b).length ≤ b.length := by
  unfold stripL
  rw [List.length_reverse]
  refine Nat.le_trans (dropWhile_length_le _ _) ?_
  rw [List.length_reverse]
  exact dropWhile_length_le _ _
theorem dropWhile_full {p : UInt8 → Bool} : ∀ {l : List UInt8}, (l.dropWhile p).length = l.length → l.dropWhile p = l
  | [], _ => rfl
  | a :: l, h => by
    rw [List.dropWhile_cons] at h ⊢
    split at h
    · have := dropWhile_length_le p l
      rw [List.length_cons] at h; omega
    · rename_i hp; rw [if_neg hp]
theorem stripL_full {c b : List UInt8} (h : (stripL c b).length = b.length) : stripL c b = b := by
  unfold stripL at h ⊢
  rw [List.length_reverse] at h
  have h1 := dropWhile_length_le c.contains (b.dropWhile c.contains).reverse
  have h2 := dropWhile_length_le c.contains b
  rw [List.length_reverse] at h1
  have e1 := dropWhile_full (p := c.contains) (l := b) (by omega)
  have e2 := dropWhile_full (p := c.contains) (l := (b.dropWhile c.contains).reverse) (by rw [List.length_reverse]; omega)
  rw [e2, List.reverse_reverse, e1]

section
variable {b c d : List UInt8} {t u v : Tok}
theorem meets_strip : Meets («bytes.strip» ⟨[.bytes b.toArray t, .bytes c.toArray u], []⟩) (fun _ R s => b.length ≤ sizeLine ∧ ∀ t' k, R (.ok (.ret (.bytes (stripL c b).toArray t'))) { s with toks := k }) := by
  refine .of_wp fun prog w A R s ⟨hsz, h⟩ => ?_
  have e : «bytes.strip» ⟨[.bytes b.toArray t, .bytes c.toArray u], []⟩ = (Bytes.bytesLike "bytes.strip" (.bytes c.toArray u) >>= fun set => 
      (if (((b.dropWhile set.contains).reverse.dropWhile set.contains).reverse).length == b.length then (rule "bytes.strip.unchanged" >>= fun _ => ret (.bytes b.toArray t)) else (mkBytes (((b.dropWhile set.contains).reverse.dropWhile set.contains).reverse).toArray >>= fun x => ret x))) := by kernel_rfl
  have e2 : (c.toArray.contains : UInt8 → Bool) = c.contains := by funext x; simp
  rw [e, KBd.like_eq]
  show wpAny _ _ (if (((b.dropWhile c.toArray.contains).reverse.dropWhile c.toArray.contains).reverse).length == b.length then _ else _) _ _ _
  rw [e2]
  show wpAny _ _ (if (stripL c b).length == b.length then _ else (mkBytes (stripL c b).toArray >>= fun x => ret x)) _ _ _
  by_cases hq : (stripL c b).length = b.length
  · rw [if_pos (beq_iff_eq.mpr hq)]
    have := h t s.toks
    rw [stripL_full hq] at this
    exact wpAny_bind (wpAny_rule (wpAny_pure ⟨_, rfl, this⟩))
  · rw [if_neg (by simpa using hq)]
    exact wpAny_bind (wpAny_mkBytes (wpAny_pure ⟨_, rfl, h _ _⟩) (Nat.le_trans (by simpa using stripL_length c b) hsz))

theorem starts_val : (if ((min (b.length : Int) (b.length : Int)) - 0 : Int) < c.toArray.size then false else b.toArray.extract 0 (0 + c.toArray.size) == c.toArray) = (b.take c.length == c) := by
  have e1 : b.toArray.extract 0 (0 + c.toArray.size) = (b.take c.length).toArray := by simp
  rw [e1]
  by_cases hl : b.length < c.length
  · rw [if_pos (by simp only [List.size_toArray]; omega)]
    symm
    rw [beq_eq_false_iff_ne]
    intro q
    have := congrArg List.length q
    rw [List.length_take] at this
    omega
  · rw [if_neg (by simp only [List.size_toArray]; omega)]
    by_cases q : b.take c.length = c
    · rw [q]; simp
    · rw [beq_eq_false_iff_ne.mpr q, beq_eq_false_iff_ne]
      intro q'
      exact q (by simpa using congrArg Array.toList q')
theorem meets_startswith : Meets («bytes.startswith» ⟨[.bytes b.toArray t, .bytes c.toArray u], []⟩) (fun _ R s => R (.ok (.ret (.bool (b.take c.length == c)))) s) := by
  refine .of_wp fun prog w A R s h => ?_
  have e : «bytes.startswith» ⟨[.bytes b.toArray t, .bytes c.toArray u], []⟩ = (isInstance (.bytes c.toArray u) (.type "tuple") >>= fun y => if y = true then
      (do let some items ← seqItems? (.bytes c.toArray u) | unsupported s!"internal:bytes.startswith"
          for x in items do
            let r ← Bytes.bytesLike "bytes.startswith" x
            if (if ((min (b.length : Int) (b.length : Int)) - 0 : Int) < r.size then false else b.toArray.extract 0 (0 + r.size) == r) then return ← ret (.bool true)
          return ← ret (.bool false)) else
      (Bytes.buffer? "bytes.startswith" (.bytes c.toArray u) >>= fun r => match r with
        | some sub => ret (.bool (if ((min (b.length : Int) (b.length : Int)) - 0 : Int) < sub.size then false else b.toArray.extract 0 (0 + sub.size) == sub))
        | none => do rule s!"bytes.startswith.bad-type"; raiseError "TypeError" s!"startswith first arg must be bytes or a tuple of bytes, not {← typeNameOf (.bytes c.toArray u)}")) := by kernel_rfl
  rw [e]
  refine wpAny_bind (wpAny_isInstance (typeIs_bytes s _ u) PySem.F.sub_bytes_tuple ?_)
  rw [if_neg (by decide)]
  refine wpAny_bind (wpAny_of_eq KBy.buffer_eq ?_)
  refine wpAny_pure ⟨_, rfl, ?_⟩
  rw [starts_val]
  exact h

/-! ### replace, split: what the model's own words reckon -/
noncomputable def replL (old new b : List UInt8) : List UInt8 :=
  (Bytes.joined new.toArray (Bytes.between b.toArray old.length (Bytes.occurrences b.toArray old.toArray 0 b.length))).toList
noncomputable def splitL (sep b : List UInt8) : List (List UInt8) :=
  (Bytes.between b.toArray sep.length (Bytes.occurrences b.toArray sep.toArray 0 b.length)).map (·.toList)

theorem meets_replace (hn : c.isEmpty = false) (hs : (Bytes.occurrences b.toArray c.toArray 0 b.length).isEmpty = true → replL c d b = b) :
    Meets («bytes.replace» ⟨[.bytes b.toArray t, .bytes c.toArray u, .bytes d.toArray v], []⟩) (fun _ R s =>
      b.length + (Bytes.occurrences b.toArray c.toArray 0 b.length).length * d.length ≤ sizeLine ∧ (replL c d b).length ≤ sizeLine ∧ ∀ t' k, R (.ok (.ret (.bytes (replL c d b).toArray t'))) { s with toks := k }) := by
  refine .of_wp fun prog w A R s ⟨h1, h2, h⟩ => ?_
  have e : «bytes.replace» ⟨[.bytes b.toArray t, .bytes c.toArray u, .bytes d.toArray v], []⟩ = (Bytes.bytesLike "bytes.replace" (.bytes c.toArray u) >>= fun _ => Bytes.bytesLike "bytes.replace" (.bytes d.toArray v) >>= fun _ =>
      Bytes.bytesLike "bytes.replace" (.bytes c.toArray u) >>= fun old => Bytes.bytesLike "bytes.replace" (.bytes d.toArray v) >>= fun new =>
      if (if old.isEmpty then List.range (b.length + 1) else Bytes.occurrences b.toArray old 0 b.length).isEmpty || (old.isEmpty && new.isEmpty) then (rule "bytes.replace.nothing" >>= fun _ => ret (.bytes b.toArray t))
      else if Bytes.tooLong (b.length + (if old.isEmpty then List.range (b.length + 1) else Bytes.occurrences b.toArray old 0 b.length).length * new.size) then unsupported "bytes.replace:memory"
      else (mkBytes (Bytes.joined new (Bytes.between b.toArray old.size (if old.isEmpty then List.range (b.length + 1) else Bytes.occurrences b.toArray old 0 b.length))) >>= fun x => ret x)) := by kernel_rfl
  have hc : c.toArray.isEmpty = false := by cases c <;> simp_all
  rw [e]
  refine wpAny_bind (wpAny_of_eq KBd.like_eq (wpAny_bind (wpAny_of_eq KBd.like_eq (wpAny_bind (wpAny_of_eq KBd.like_eq (wpAny_bind (wpAny_of_eq KBd.like_eq ?_)))))))
  rw [hc]
  simp only [Bool.false_eq_true, if_false, Bool.false_and, Bool.or_false]
  split
  · rename_i hq
    have := h t s.toks
    rw [hs hq] at this
    exact wpAny_bind (wpAny_rule (wpAny_pure ⟨_, rfl, this⟩))
  · rw [if_neg (by rw [KBy.tooLong_not (by rw [sizeLine_eq] at h1; simpa using h1)]; exact Bool.false_ne_true)]
    refine wpAny_bind (wpAny_mkBytes (wpAny_pure ⟨_, rfl, ?_⟩) ?_)
    · have := h s.toks (s.toks + 1)
      unfold replL at this
      simpa using this
    · unfold replL at h2
      simpa using h2
end

section
variable {prog : Program} {w : World} {A : Around} {E : Value → Shared → Prop} {s : Shared} {b c d : List UInt8} {t u v : Tok} {Q : Value → Shared → Prop}
theorem strip_call (hsz : b.length ≤ 16777216) (h : ∀ t' k, Q (.bytes (stripL c b).toArray t') { s with toks := k }) : wpAny (model prog w) A (call (.builtin "bytes.strip") [.bytes b.toArray t, .bytes c.toArray u]) Q E s :=
  call_meets slot_bytes_strip (typeIs_bytes _ _ _) entry_bytes_strip (args_bytes_strip_2 _ _) meets_strip ⟨by rw [sizeLine_eq]; exact hsz, h⟩
theorem starts_call (h : Q (.bool (b.take c.length == c)) s) : wpAny (model prog w) A (call (.builtin "bytes.startswith") [.bytes b.toArray t, .bytes c.toArray u]) Q E s :=
  call_meets FB.slot_bytes_startswith (typeIs_bytes _ _ _) FB.entry_bytes_startswith (FB.args_bytes_startswith_2 _ _) meets_startswith h
theorem replace_call (hn : c.isEmpty = false) (hs : (Bytes.occurrences b.toArray c.toArray 0 b.length).isEmpty = true → replL c d b = b)
    (h1 : b.length + (Bytes.occurrences b.toArray c.toArray 0 b.length).length * d.length ≤ 16777216) (h2 : (replL c d b).length ≤ 16777216)
    (h : ∀ t' k, Q (.bytes (replL c d b).toArray t') { s with toks := k }) : wpAny (model prog w) A (call (.builtin "bytes.replace") [.bytes b.toArray t, .bytes c.toArray u, .bytes d.toArray v]) Q E s :=
  call_meets slot_bytes_replace (typeIs_bytes _ _ _) entry_bytes_replace (args_bytes_replace_3 _ _ _) (meets_replace hn hs) ⟨by rw [sizeLine_eq]; exact h1, by rw [sizeLine_eq]; exact h2, h⟩
theorem bm_strip {M : Model} {b : Array UInt8} {pl : Sem Bool} {Q : Value × List Value → Shared → Prop} (h : Q (.builtin "bytes.strip", [.bytes b t]) s) : wpAny M A (getMethod (.bytes b t) "strip" pl) Q E s := by
  with_reducible exact KBd.method_of (.bytes b t) (typeIs_bytes _ _ _) slot_bytes_strip type_bytes_strip KBd.noRef h
theorem bm_starts {M : Model} {b : Array UInt8} {pl : Sem Bool} {Q : Value × List Value → Shared → Prop} (h : Q (.builtin "bytes.startswith", [.bytes b t]) s) : wpAny M A (getMethod (.bytes b t) "startswith" pl) Q E s := by
  with_reducible exact KBd.method_of (.bytes b t) (typeIs_bytes _ _ _) FB.slot_bytes_startswith FB.type_bytes_startswith KBd.noRef h
theorem bm_replace {M : Model} {b : Array UInt8} {pl : Sem Bool} {Q : Value × List Value → Shared → Prop} (h : Q (.builtin "bytes.replace", [.bytes b t]) s) : wpAny M A (getMethod (.bytes b t) "replace" pl) Q E s := by
  with_reducible exact KBd.method_of (.bytes b t) (typeIs_bytes _ _ _) slot_bytes_replace type_bytes_replace KBd.noRef h
theorem bm_split {M : Model} {b : Array UInt8} {pl : Sem Bool} {Q : Value × List Value → Shared → Prop} (h : Q (.builtin "bytes.split", [.bytes b t]) s) : wpAny M A (getMethod (.bytes b t) "split" pl) Q E s := by
  with_reducible exact KBd.method_of (.bytes b t) (typeIs_bytes _ _ _) slot_bytes_split type_bytes_split KBd.noRef h
end
end Mine
end R0S

section T0S
open PySem PySem.W PySem.Calls PyProof.Rows Builtin
namespace Mine
noncomputable abbrev Octs := List UInt8

/-! ## replace and split, in plain lists -/
noncomputable def occS (sub : Octs) : Nat → Nat → Octs → List Nat
  | _, _, [] => []
  | 0, k, c :: r => if (c :: r).take sub.length == sub then k :: occS sub (sub.length - 1) (k + 1) r else occS sub 0 (k + 1) r
  | s + 1, k, _ :: r => occS sub s (k + 1) r
noncomputable def chopS (sub : Octs) : Nat → Octs → Octs → List Octs
  | _, cur, [] => [cur]
  | 0, cur, c :: r => if (c :: r).take sub.length == sub then cur :: chopS sub (sub.length - 1) [] r else chopS sub 0 (cur ++ [c]) r
  | s + 1, cur, _ :: r => chopS sub s cur r
noncomputable def repS (sub new : Octs) : Nat → Octs → Octs
  | _, [] => []
  | 0, c :: r => if (c :: r).take sub.length == sub then new ++ repS sub new (sub.length - 1) r else c :: repS sub new 0 r
  | s + 1, _ :: r => repS sub new s r
noncomputable def joinL (new : Octs) : List Octs → Octs
  | [] => []
  | p :: ps => p ++ ps.flatMap (new ++ ·)

theorem occS_short (sub : Octs) : ∀ (l : Octs) (s k : Nat), l.length < sub.length → occS sub s k l = []
  | [], _, _, _ => by simp [occS]
  | c :: r, 0, k, h => by
    rw [occS, if_neg]
    · exact occS_short sub r 0 (k + 1) (by rw [List.length_cons] at h; omega)
    · rw [beq_iff_eq]
      intro q
      have := congrArg List.length q
      rw [List.length_take] at this
      omega
  | c :: r, s + 1, k, h => by
    rw [occS]
    exact occS_short sub r s (k + 1) (by rw [List.length_cons] at h; omega)

theorem extract_is (l : Octs) (i j : Nat) : l.toArray.extract i j = ((l.take j).drop i).toArray := by
  simp [List.extract_eq_take_drop, List.drop_take]
theorem extract_beq (l sub : Octs) (i : Nat) : (l.toArray.extract i (i + sub.toArray.size) == sub.toArray) = ((l.drop i).take sub.length == sub) := by
  have e : l.toArray.extract i (i + sub.toArray.size) = ((l.drop i).take sub.length).toArray := by
    simp [List.extract_eq_take_drop]
  rw [e]
  by_cases q : (l.drop i).take sub.length = sub
  · rw [q]; simp
  · rw [beq_eq_false_iff_ne.mpr q, beq_eq_false_iff_ne]
    intro q'
    exact q (by simpa using congrArg Array.toList q')

theorem occ_fold (l sub : Octs) (hs : 1 ≤ sub.length) : ∀ (m i : Nat) (acc : List Nat) (nxt : Nat), l.length + 1 - sub.length - i = m →
    ((List.range' i m).foldl (fun (acc : List Nat × Nat) i => if i ≥ acc.2 && l.toArray.extract i (i + sub.toArray.size) == sub.toArray then (i :: acc.1, i + sub.toArray.size) else acc) (acc, nxt)).1.reverse = acc.reverse ++ occS sub (nxt - i) i (l.drop i) := by
  intro m
  induction m with
  | zero =>
    intro i acc nxt hm
    rw [occS_short sub (l.drop i) _ _ (by rw [List.length_drop]; omega)]
    simp
  | succ m ih =>
    intro i acc nxt hm
    have hi : i < l.length := by omega
    have hd : l.drop i = l[i] :: l.drop (i + 1) := List.drop_eq_getElem_cons hi
    rw [List.range'_succ, List.foldl_cons, extract_beq]
    by_cases hn : i ≥ nxt
    · have h0 : nxt - i = 0 := by omega
      rw [h0]
      by_cases hc : (l.drop i).take sub.length = sub
      · rw [if_pos (by simp [hn, hc]), ih (i + 1) _ _ (by omega)]
        have e : i + sub.toArray.size - (i + 1) = sub.length - 1 := by simp; omega
        rw [e, hd, occS, if_pos (by rw [← hd, beq_iff_eq]; exact hc)]
        simp
      · rw [if_neg (by simp [hc]), ih (i + 1) _ _ (by omega)]
        have e : nxt - (i + 1) = 0 := by omega
        rw [e, hd, occS, if_neg (by rw [← hd, beq_iff_eq]; exact hc)]
    · rw [if_neg (by simp; intro h; omega), ih (i + 1) _ _ (by omega)]
      obtain ⟨s, hs'⟩ : ∃ s, nxt - i = s + 1 := ⟨nxt - i - 1, by omega⟩
      have e : nxt - (i + 1) = s := by omega
      rw [e, hs', hd, occS]

theorem occ_is (l sub : Octs) (hs : 1 ≤ sub.length) : Bytes.occurrences l.toArray sub.toArray 0 l.length = occS sub 0 0 l := by
  have := occ_fold l sub hs (l.length + 1 - sub.length - 0) 0 [] 0 rfl
  simp only [Nat.sub_zero, List.drop_zero, List.reverse_nil, List.nil_append] at this
  rw [← this]
  unfold Bytes.occurrences
  simp [List.range_eq_range']

theorem chop_fold (l sub : Octs) (hs : 1 ≤ sub.length) : ∀ (suf pre : Octs) (s last : Nat) (parts : Array (Array UInt8)), l = pre ++ suf → (s = 0 → last ≤ pre.length) → (0 < s → last = pre.length + s) →
    (let r := (occS sub s pre.length suf).foldl (fun (x : Array (Array UInt8) × Nat) p => (x.1.push (l.toArray.extract x.2 p), p + sub.length)) (parts, last)
     ((r.1.push (l.toArray.extract r.2 l.length)).toList.map (·.toList))) = parts.toList.map (·.toList) ++ chopS sub s (pre.drop last) suf := by
  intro suf
  induction suf with
  | nil =>
    intro pre s last parts hl h0 h1
    rw [List.append_nil] at hl
    subst hl
    simp only [occS, chopS, List.foldl_nil, Array.toList_push, List.map_append, List.map_cons, List.map_nil, extract_is]
    rw [List.take_of_length_le (Nat.le_refl _)]
  | cons c r ih =>
    intro pre s last parts hl h0 h1
    have hl' : l = (pre ++ [c]) ++ r := by rw [hl]; simp
    have hlen : (pre ++ [c]).length = pre.length + 1 := by simp
    cases s with
    | zero =>
      have hlast := h0 rfl
      rw [occS, chopS]
      by_cases hc : ((c :: r).take sub.length == sub) = true
      · rw [if_pos hc, if_pos hc]
        have := ih (pre ++ [c]) (sub.length - 1) (pre.length + sub.length) (parts.push (l.toArray.extract last pre.length)) hl' (by rw [hlen]; omega) (by rw [hlen]; omega)
        rw [hlen] at this
        rw [List.foldl_cons, this]
        have e1 : (pre ++ [c]).drop (pre.length + sub.length) = [] := List.drop_eq_nil_of_le (by rw [hlen]; omega)
        have e2 : (l.toArray.extract last pre.length).toList = pre.drop last := by
          rw [extract_is, hl]
          simp
        rw [e1]
        simp only [Array.toList_push, List.map_append, List.map_cons, List.map_nil, e2, List.append_assoc, List.cons_append, List.nil_append]
      · rw [if_neg hc, if_neg hc]
        have := ih (pre ++ [c]) 0 last parts hl' (by rw [hlen]; omega) (by omega)
        rw [hlen] at this
        rw [this]
        have e : (pre ++ [c]).drop last = pre.drop last ++ [c] := by
          rw [List.drop_append_of_le_length hlast]
        rw [e]
    | succ s =>
      have hlast := h1 (by omega)
      rw [occS, chopS]
      have := ih (pre ++ [c]) s last parts hl' (by rw [hlen]; omega) (by rw [hlen]; omega)
      rw [hlen] at this
      rw [this]
      have e1 : (pre ++ [c]).drop last = [] := List.drop_eq_nil_of_le (by rw [hlen]; omega)
      have e2 : pre.drop last = [] := List.drop_eq_nil_of_le (by omega)
      rw [e1, e2]

theorem between_is (l sub : Octs) (hs : 1 ≤ sub.length) : (Bytes.between l.toArray sub.length (occS sub 0 0 l)).map (·.toList) = chopS sub 0 [] l := by
  have := chop_fold l sub hs l [] 0 0 #[] rfl (by intro _; exact Nat.le_refl _) (by intro h; omega)
  simp only [List.length_nil, List.drop_zero, List.map_nil, List.nil_append] at this
  rw [← this]
  rfl
theorem split_is (l sub : Octs) (hs : 1 ≤ sub.length) : splitL sub l = chopS sub 0 [] l := by
  unfold splitL
  rw [occ_is l sub hs, between_is l sub hs]

theorem joined_from (new : Octs) : ∀ (ps : List (Array UInt8)) (k : Nat) (out : Array UInt8), 0 < k →
    ((ps.zipIdx k).foldl (fun out (x : Array UInt8 × Nat) => (if x.2 > 0 then out ++ new.toArray else out) ++ x.1) out).toList = out.toList ++ (ps.map (·.toList)).flatMap (new ++ ·)
  | [], _, _, _ => by simp
  | p :: ps, k, out, hk => by
    rw [List.zipIdx_cons, List.foldl_cons, joined_from new ps (k + 1) _ (by omega)]
    simp [hk]
theorem joined_is (new : Octs) (ps : List (Array UInt8)) : (Bytes.joined new.toArray ps).toList = joinL new (ps.map (·.toList)) := by
  unfold Bytes.joined
  cases ps with
  | nil => rfl
  | cons p ps =>
    have := joined_from new ps 1 p (by omega)
    rw [List.zipIdx_cons, List.foldl_cons]
    simp only [Nat.zero_add]
    have e : ((if 0 > 0 then (#[] : Array UInt8) ++ new.toArray else #[]) ++ p) = p := by simp
    rw [show (if (p, 0).2 > 0 then (#[] : Array UInt8) ++ new.toArray else #[]) ++ (p, 0).1 = p from by simp]
    rw [this]
    rfl
theorem chopS_ne (sub : Octs) : ∀ (l : Octs) (s : Nat) (cur : Octs), chopS sub s cur l ≠ []
  | [], _, _ => by simp [chopS]
  | c :: r, 0, cur => by
    rw [chopS]
    split
    · simp
    · exact chopS_ne sub r 0 _
  | c :: r, s + 1, cur => by rw [chopS]; exact chopS_ne sub r s cur
theorem joinL_cons (new p : Octs) : ∀ {ps : List Octs}, ps ≠ [] → joinL new (p :: ps) = p ++ (new ++ joinL new ps)
  | [], h => absurd rfl h
  | q :: ps, _ => by simp [joinL]
theorem join_chop (sub new : Octs) : ∀ (l : Octs) (s : Nat) (cur : Octs), joinL new (chopS sub s cur l) = cur ++ repS sub new s l
  | [], _, _ => by simp [chopS, repS, joinL]
  | c :: r, 0, cur => by
    rw [chopS, repS]
    split
    · rw [joinL_cons _ _ (chopS_ne sub r _ _), join_chop sub new r]
      simp
    · rw [join_chop sub new r]; simp
  | c :: r, s + 1, cur => by rw [chopS, repS]; exact join_chop sub new r s cur
theorem repl_is (l sub new : Octs) (hs : 1 ≤ sub.length) : replL sub new l = repS sub new 0 l := by
  unfold replL
  rw [joined_is, occ_is l sub hs, between_is l sub hs, join_chop]
  rfl
theorem repl_none (l sub new : Octs) (h : (Bytes.occurrences l.toArray sub.toArray 0 l.length).isEmpty = true) : replL sub new l = l := by
  unfold replL
  rw [List.isEmpty_iff.mp h]
  simp [Bytes.between, Bytes.joined]
theorem occS_length (sub : Octs) : ∀ (l : Octs) (s k : Nat), (occS sub s k l).length ≤ l.length
  | [], _, _ => by simp [occS]
  | c :: r, 0, k => by
    rw [occS]
    split
    · have := occS_length sub r (sub.length - 1) (k + 1)
      simp only [List.length_cons]; omega
    · have := occS_length sub r 0 (k + 1)
      simp only [List.length_cons]; omega
  | c :: r, s + 1, k => by
    rw [occS]
    have := occS_length sub r s (k + 1)
    simp only [List.length_cons]; omega
theorem repS_length (sub new : Octs) (hn : new.length ≤ 1) : ∀ (l : Octs) (s : Nat), (repS sub new s l).length ≤ l.length
  | [], _ => by simp [repS]
  | c :: r, 0 => by
    rw [repS]
    split
    · have := repS_length sub new hn r (sub.length - 1)
      simp only [List.length_cons, List.length_append]; omega
    · have := repS_length sub new hn r 0
      simp only [List.length_cons]; omega
  | c :: r, s + 1 => by
    rw [repS]
    have := repS_length sub new hn r s
    simp only [List.length_cons]; omega

/-! ## the lines, two readings -/
/-- the function's: a scan with the line at hand -/
noncomputable def scanF : Octs → Octs → List Octs
  | cur, [] => if cur = [] then [] else [cur]
  | cur, c :: r => if c = 13 then (match r with | d :: r' => if d = 10 then cur :: scanF [] r' else cur :: scanF [] (d :: r') | [] => cur :: scanF [] []) else if c = 10 then cur :: scanF [] r else scanF (cur ++ [c]) r
termination_by _ l => l.length
/-- the law's: replace, replace, split, the last one dropped if it is empty -/
noncomputable def lawLines (b : Octs) : List Octs :=
  if (splitL [10] (replL [13] [10] (replL [13, 10] [10] b))).getLast? = some [] then (splitL [10] (replL [13] [10] (replL [13, 10] [10] b))).dropLast else splitL [10] (replL [13] [10] (replL [13, 10] [10] b))

theorem rep1_cons (c : UInt8) (r : Octs) : repS [13] [10] 0 (c :: r) = (if c = 13 then 10 else c) :: repS [13] [10] 0 r := by
  rw [repS]
  by_cases h : c = 13 <;> simp [h]
theorem rep2_crlf (r : Octs) : repS [13, 10] [10] 0 (13 :: 10 :: r) = 10 :: repS [13, 10] [10] 0 r := by
  rw [repS, if_pos (by simp)]
  simp [repS]
theorem rep2_other (c : UInt8) (r : Octs) (h : ¬ (c = 13 ∧ r.head? = some 10)) : repS [13, 10] [10] 0 (c :: r) = c :: repS [13, 10] [10] 0 r := by
  rw [repS, if_neg]
  cases r with
  | nil => simp
  | cons d r => simpa using h
noncomputable def normB (b : Octs) : Octs := repS [13] [10] 0 (repS [13, 10] [10] 0 b)
theorem norm_crlf (r : Octs) : normB (13 :: 10 :: r) = 10 :: normB r := by
  unfold normB; rw [rep2_crlf, rep1_cons]; simp
theorem norm_cr (r : Octs) (h : r.head? ≠ some 10) : normB (13 :: r) = 10 :: normB r := by
  unfold normB; rw [rep2_other _ _ (by simp [h]), rep1_cons]; simp
theorem norm_other (c : UInt8) (r : Octs) (h : c ≠ 13) : normB (c :: r) = c :: normB r := by
  unfold normB; rw [rep2_other _ _ (by simp [h]), rep1_cons, if_neg h]
theorem chop_lf (cur r : Octs) : chopS [10] 0 cur (10 :: r) = cur :: chopS [10] 0 [] r := by
  rw [chopS, if_pos (by simp)]; rfl
theorem chop_other (c : UInt8) (cur r : Octs) (h : c ≠ 10) : chopS [10] 0 cur (c :: r) = chopS [10] 0 (cur ++ [c]) r := by
  rw [chopS, if_neg (by simpa using h)]
noncomputable def dropEnd (ps : List Octs) : List Octs := if ps.getLast? = some [] then ps.dropLast else ps
theorem dropEnd_cons (p : Octs) {ps : List Octs} (h : ps ≠ []) : dropEnd (p :: ps) = p :: dropEnd ps := by
  unfold dropEnd
  cases ps with
  | nil => exact absurd rfl h
  | cons q ps =>
    rw [List.getLast?_cons_cons]
    split <;> simp

theorem scanF_cr (cur r : Octs) (h : r.head? ≠ some 10) : scanF cur (13 :: r) = cur :: scanF [] r := by
  rw [scanF.eq_def]
  cases r with
  | nil => simp
  | cons d r =>
    have : d ≠ 10 := by simpa using h
    simp [this]
theorem scanF_crlf (cur r : Octs) : scanF cur (13 :: 10 :: r) = cur :: scanF [] r := by
  rw [scanF.eq_def]; simp
theorem scanF_lf (cur r : Octs) : scanF cur (10 :: r) = cur :: scanF [] r := by
  rw [scanF.eq_def]; simp
theorem scanF_other (cur r : Octs) (c : UInt8) (h : c ≠ 13) (h' : c ≠ 10) : scanF cur (c :: r) = scanF (cur ++ [c]) r := by
  rw [scanF.eq_def]; simp [h, h']
theorem scan_is : ∀ (n : Nat) (b cur : Octs), b.length ≤ n → dropEnd (chopS [10] 0 cur (normB b)) = scanF cur b := by
  intro n
  induction n with
  | zero =>
    intro b cur h
    have : b = [] := List.eq_nil_of_length_eq_zero (by omega)
    subst this
    simp [normB, repS, chopS, dropEnd, scanF]
  | succ n ih =>
    intro b cur h
    cases b with
    | nil => simp [normB, repS, chopS, dropEnd, scanF]
    | cons c r =>
      rw [List.length_cons] at h
      by_cases hc : c = 13
      · subst hc
        cases r with
        | nil =>
          rw [norm_cr _ (by simp), chop_lf, dropEnd_cons _ (chopS_ne _ _ _ _)]
          rw [ih [] [] (by simp), scanF_cr _ _ (by simp)]
        | cons d r' =>
          rw [List.length_cons] at h
          by_cases hd : d = 10
          · subst hd
            rw [norm_crlf, chop_lf, dropEnd_cons _ (chopS_ne _ _ _ _), ih r' [] (by omega), scanF_crlf]
          · rw [norm_cr _ (by simpa using hd), chop_lf, dropEnd_cons _ (chopS_ne _ _ _ _), ih (d :: r') [] (by rw [List.length_cons]; omega), scanF_cr _ _ (by simpa using hd)]
      · by_cases hd : c = 10
        · subst hd
          rw [norm_other _ _ (by decide), chop_lf, dropEnd_cons _ (chopS_ne _ _ _ _), ih r [] (by omega), scanF_lf]
        · rw [norm_other _ _ hc, chop_other _ _ _ hd, ih r _ (by omega), scanF_other _ _ _ hc hd]
theorem lawLines_is (b : Octs) : lawLines b = scanF [] b := by
  unfold lawLines
  rw [repl_is _ _ _ (by decide), repl_is _ _ _ (by decide), split_is _ _ (by decide)]
  exact scan_is b.length b [] (Nat.le_refl _)
end Mine
end T0S

section R1S
open PySem PySem.W PySem.Calls PyProof.Rows Builtin
set_option maxRecDepth 100000
namespace Mine

/-- values that are bytes, one by one -/
inductive BytesAre : List Value → List Octs → Prop
  | nil : BytesAre [] []
  | cons {b : Octs} {t : Tok} {vs : List Value} {bs : List Octs} : BytesAre vs bs → BytesAre (.bytes b.toArray t :: vs) (b :: bs)
theorem BytesAre.length {vs bs} (h : BytesAre vs bs) : vs.length = bs.length := by induction h <;> simp_all
theorem BytesAre.append {vs bs vs' bs'} (h : BytesAre vs bs) (h' : BytesAre vs' bs') : BytesAre (vs ++ vs') (bs ++ bs') := by
  induction h with
  | nil => exact h'
  | cons _ ih => exact .cons ih
theorem BytesAre.one (b : Octs) (t : Tok) : BytesAre [.bytes b.toArray t] [b] := .cons .nil
theorem BytesAre.get {vs bs} (h : BytesAre vs bs) : ∀ {i : Nat} {v : Value}, vs[i]? = some v → ∃ b t, v = .bytes (List.toArray b) t ∧ bs[i]? = some b := by
  induction h with
  | nil => intro i v h; simp at h
  | cons h ih =>
    intro i v hv
    cases i with
    | zero => simp only [List.getElem?_cons_zero, Option.some.injEq] at hv; subst hv; exact ⟨_, _, rfl, rfl⟩
    | succ i => exact ih hv
theorem BytesAre.take {vs bs} (h : BytesAre vs bs) : ∀ n, BytesAre (vs.take n) (bs.take n) := by
  induction h with
  | nil => intro n; simp; exact .nil
  | cons h ih => intro n; cases n with
    | zero => exact .nil
    | succ n => exact .cons (ih n)
theorem BytesAre.drop {vs bs} (h : BytesAre vs bs) : ∀ n, BytesAre (vs.drop n) (bs.drop n) := by
  induction h with
  | nil => intro n; simp; exact .nil
  | cons h ih => intro n; cases n with
    | zero => exact .cons h
    | succ n => exact ih n

section
variable {b c d : Octs} {t u v : Tok}
theorem wpAny_mapM_mkBytes {M : Model} {A : Around} {E : Value → Shared → Prop} : ∀ (xs : List (Array UInt8)) (s : Shared) (Q : List Value → Shared → Prop), (∀ x ∈ xs, x.size ≤ sizeLine) →
    (∀ vs k, BytesAre vs (xs.map (·.toList)) → Q vs { s with toks := k }) → wpAny M A (xs.mapM mkBytes) Q E s
  | [], s, Q, _, h => by rw [List.mapM_nil]; exact wpAny_pure (h [] s.toks .nil)
  | x :: r, s, Q, hx, h => by
    rw [List.mapM_cons]
    refine wpAny_bind (wpAny_mkBytes (wpAny_bind (wpAny_mapM_mkBytes r _ _ (fun y hy => hx y (List.mem_cons_of_mem _ hy)) fun vs k hvs => wpAny_pure ?_)) (hx x (List.mem_cons_self ..)))
    exact h _ _ (.cons (b := x.toList) hvs)

theorem meets_split (hc : c.isEmpty = false) : Meets («bytes.split» ⟨[.bytes b.toArray t, .bytes c.toArray u], []⟩) (fun _ R s => b.length ≤ sizeLine ∧ (splitL c b).length ≤ sizeLine ∧ (∀ x ∈ splitL c b, x.length ≤ sizeLine) ∧
    ∀ vs k, BytesAre vs (splitL c b) → R (.ok (.ret (.ref s.heap.objs.size))) { s with heap := s.heap.push { cls := .type "list", data := .seq vs.toArray }, toks := k }) := by
  refine .of_wp fun prog w A R s ⟨h0, h1, h2, h⟩ => ?_
  have hc' : c.toArray.isEmpty = false := by cases c <;> simp_all
  have hlen : 1 ≤ c.length := by cases c <;> simp_all
  have ht : (Bytes.occurrences b.toArray c.toArray 0 b.length).take (b.length + 1) = Bytes.occurrences b.toArray c.toArray 0 b.length := by
    rw [occ_is _ _ hlen]
    exact List.take_of_length_le (Nat.le_succ_of_le (occS_length _ _ _ _))
  show wpAny _ _ (Bytes.bytesLike "bytes.split" (.bytes c.toArray u) >>= fun sep => _) _ _ s
  refine wpAny_bind (wpAny_of_eq KBd.like_eq ?_)
  show wpAny _ _ (if c.toArray.isEmpty = true then _ else if ((Bytes.occurrences b.toArray c.toArray 0 b.length).take (b.length + 1)).isEmpty = true then (rule "bytes.split.no-separator" >>= fun _ => newList [.bytes b.toArray t] >>= fun x => ret x)
      else ((Bytes.between b.toArray c.toArray.size ((Bytes.occurrences b.toArray c.toArray 0 b.length).take (b.length + 1))).mapM mkBytes >>= fun ws => newList ws >>= fun x => ret x)) _ _ s
  rw [hc', ht]
  simp only [Bool.false_eq_true, if_false]
  split
  · rename_i hq
    refine wpAny_bind (wpAny_rule (wpAny_bind (wpAny_newObj_type (wpAny_pure ⟨_, rfl, h [.bytes b.toArray t] s.toks ?_⟩) (by show 1 ≤ sizeLine; rw [sizeLine_eq]; decide))))
    have es : splitL c b = [b] := by
      unfold splitL
      rw [List.isEmpty_iff.mp hq]
      simp [Bytes.between]
    rw [es]
    exact .one b t
  · refine wpAny_bind (wpAny_mapM_mkBytes _ _ _ (fun x hx => ?_) fun vs k hvs => ?_)
    · have := h2 x.toList (by unfold splitL; exact List.mem_map.mpr ⟨x, by simpa using hx, rfl⟩)
      simpa using this
    · have hvs' : BytesAre vs (splitL c b) := by unfold splitL; simpa using hvs
      refine wpAny_bind (wpAny_newObj_type (wpAny_pure ⟨_, rfl, h vs k hvs'⟩) ?_)
      show vs.toArray.size ≤ sizeLine
      rw [List.size_toArray, hvs'.length]
      exact h1

theorem meets_in {i : Int} (h0 : 0 ≤ i) (h1 : i < 256) : Gives («bytes.__contains__» ⟨[.bytes b.toArray t, .int i u], []⟩) (.val (.bool (b.contains i.toNat.toUInt8))) := by
  refine .of_wp fun M A E s Q hq => ?_
  have hf : (decide (i < 0) || decide (i ≥ 256)) = false := by simp; omega
  show wpAny _ _ (Bytes.containsIn "bytes.__contains__" (.bytes b.toArray t) (.int i u) >>= fun x => ret (.bool x)) _ _ s
  refine wpAny_bind ?_
  unfold Bytes.containsIn
  refine wpAny_bind (wpAny_of_eq (rfl : (asIndex (.int i u)).attempt = pure (.ok i)) ?_)
  refine wpAny_bind (wpAny_of_eq KBy.buffer_eq ?_)
  show wpAny _ _ (if (decide (i < 0) || decide (i ≥ 256)) = true then _ else pure (b.toArray.contains i.toNat.toUInt8)) _ _ s
  rw [hf]
  refine wpAny_pure (wpAny_pure ⟨_, rfl, ?_⟩)
  have hq' : Q (.bool (b.contains i.toNat.toUInt8)) s := hq
  simpa using hq'

theorem meets_new : Meets («bytes.__new__» ⟨[.type "bytes", .bytes b.toArray t], []⟩) (fun _ R s => R (.ok (.ret (.bytes b.toArray t))) s) := by
  refine .of_wp fun prog w A R s h => ?_
  unfold Builtin.«bytes.__new__»
  refine wpAny_bind (wpAny_of_eq (a := true) rfl ?_)
  refine bm_if_false rfl ?_
  refine wpAny_bind (wpAny_of_eq F.bm_sub ?_)
  refine bm_if_false rfl ?_
  refine wpAny_bind (wpAny_of_eq (F.bm_bind _) ?_)
  refine wpAny_bind (wpAny_of_eq (a := ()) rfl ?_)
  refine wpAny_bind (wpAny_of_eq (a := ()) rfl ?_)
  refine bm_if_false rfl ?_
  refine wpAny_bind (wpAny_specialOf (typeIs_bytes _ _ _) (r := some (.builtin "bytes.__bytes__")) (by rw [typeLookup_type, builtinLookup_eq_fast]; kernel_rfl) ?_)
  refine wpAny_bind (wpAny_rule ?_)
  refine wpAny_bind (wpAny_typeOf (typeIs_bytes s _ t) ?_)
  refine bm_if_true rfl ?_
  exact wpAny_pure ⟨_, rfl, h⟩
end

/-- a cut of a text: Python's own reading of the bounds -/
noncomputable def cutL (l : Octs) (lo hi : Option Int) : Octs := (l.drop (lo.elim 0 (clipAt l.length))).take (hi.elim l.length (clipAt l.length) - lo.elim 0 (clipAt l.length))
theorem cutL_length (l : Octs) (lo hi) : (cutL l lo hi).length ≤ l.length := by
  unfold cutL; rw [List.length_take, List.length_drop]; omega
theorem cutL_lo (l : Octs) (n : Nat) : cutL l (some (n : Int)) none = l.drop n := by
  unfold cutL
  simp only [Option.elim, clipAt_nat]
  by_cases h : n ≤ l.length
  · rw [Nat.min_eq_left h, List.take_of_length_le (by rw [List.length_drop]; omega)]
  · rw [Nat.min_eq_right (by omega), List.drop_eq_nil_of_le (Nat.le_refl _), List.drop_eq_nil_of_le (by omega)]; simp
theorem cutL_hi (l : Octs) (n : Nat) : cutL l none (some (n : Int)) = l.take n := by
  unfold cutL
  simp only [Option.elim, clipAt_nat, List.drop_zero, Nat.sub_zero]
  by_cases h : n ≤ l.length
  · rw [Nat.min_eq_left h]
  · rw [Nat.min_eq_right (by omega), List.take_of_length_le (Nat.le_refl _), List.take_of_length_le (by omega)]
theorem cutL_mid (l : Octs) (i j : Nat) : cutL l (some (i : Int)) (some (j : Int)) = (l.drop i).take (j - i) := by
  unfold cutL
  simp only [Option.elim, clipAt_nat]
  by_cases h : i ≤ l.length
  · rw [Nat.min_eq_left h]
    by_cases h' : j ≤ l.length
    · rw [Nat.min_eq_left h']
    · have e : min j l.length = l.length := by omega
      rw [e, List.take_of_length_le (by rw [List.length_drop]; omega), List.take_of_length_le (by rw [List.length_drop]; omega)]
  · have e : min i l.length = l.length := by omega
    rw [e, List.drop_eq_nil_of_le (Nat.le_refl _), List.drop_eq_nil_of_le (by omega)]; simp
theorem cutL_picked (l : Octs) (lo hi) : KBy.picked l.toArray lo hi = (cutL l lo hi).toArray := by
  rw [KBc.picked_eq]; simp [cutL]

section
variable {prog : Program} {w : World} {A : Around} {E : Value → Shared → Prop} {s : Shared} {b c : Octs} {t u : Tok} {Q : Value → Shared → Prop}
theorem split_call (hc : c.isEmpty = false) (h0 : b.length ≤ 16777216) (h1 : (splitL c b).length ≤ 16777216) (h2 : ∀ x ∈ splitL c b, x.length ≤ 16777216)
    (h : ∀ vs k, BytesAre vs (splitL c b) → Q (.ref s.heap.objs.size) { s with heap := s.heap.push { cls := .type "list", data := .seq vs.toArray }, toks := k }) :
    wpAny (model prog w) A (call (.builtin "bytes.split") [.bytes b.toArray t, .bytes c.toArray u]) Q E s :=
  call_meets slot_bytes_split (typeIs_bytes _ _ _) entry_bytes_split (args_bytes_split_2 _ _) (meets_split hc) ⟨by rw [sizeLine_eq]; exact h0, by rw [sizeLine_eq]; exact h1, by rw [sizeLine_eq]; exact h2, h⟩
theorem in_bytes {i : Int} (h0 : 0 ≤ i) (h1 : i < 256) (h : Q (.bool (b.contains i.toNat.toUInt8)) s) : wpAny (model prog w) A (compareOp .In (.int i u) (.bytes b.toArray t)) Q E s :=
  in_gives (typeIs_bytes _ _ _) FB.slot_bytes_contains FB.entry_bytes_contains (FB.args_bytes_contains_2 _ _) (meets_in h0 h1) h
theorem notIn_bytes {i : Int} (h0 : 0 ≤ i) (h1 : i < 256) (h : Q (.bool (!b.contains i.toNat.toUInt8)) s) : wpAny (model prog w) A (compareOp .NotIn (.int i u) (.bytes b.toArray t)) Q E s :=
  notIn_gives (typeIs_bytes _ _ _) FB.slot_bytes_contains FB.entry_bytes_contains (FB.args_bytes_contains_2 _ _) (meets_in h0 h1) h
theorem bytes_bytes (h : Q (.bytes b.toArray t) s) : wpAny (model prog w) A (call (.type "bytes") [.bytes b.toArray t]) Q E s :=
  callType_new F.bm_called (by decide) (F.bm_typeCall _) (F.bm_newCall _) (fun obj => F.args_object_init_2 obj _) F.bm_entry meets_new ⟨typeIs_bytes _ _ _, h⟩
theorem slice_bytes {h₀ : Heap} {L : Addr} {m : PySem.Str → Option Value} {news : List (Addr × Obj)} {l u : Value} {lo hi : Option Int} {value slice : PySem.Expr}
    (hF : Fr h₀ L s.heap m) (hN : News h₀ L s.heap news) (hl : IsPart l lo) (hu : IsPart u hi) (hz : b.length ≤ 16777216)
    (h : ∀ h' t' k, Fr h₀ L h' m → News h₀ L h' news → Q (.bytes (cutL b lo hi).toArray t') { s with heap := h', toks := k })
    (hs : subscripted slice false (.bytes b.toArray t) (.ref s.heap.objs.size) = operate [.ref s.heap.objs.size, .bytes b.toArray t] (getItem (.bytes b.toArray t) (.ref s.heap.objs.size)) := by with_unfolding_all rfl)
    (ht : ∀ r, letTemporaryGo value (.bytes b.toArray t) r = pure () := by intro _; with_unfolding_all rfl) :
    wpAny (model prog w) A (subscriptTail value slice (.bytes b.toArray t) (.ref s.heap.objs.size)) Q E { s with heap := s.heap.push { cls := .type "slice", data := .fields #[l, u, .none] } } :=
  KBc.slice_K hF hN rfl hl hu (by rw [KBw.ints_length]; simpa using hz) (fun h' t' k F' N' _ => by rw [cutL_picked]; exact h h' t' k F' N') hs ht
end
end Mine
end R1S

section R2S
open PySem PySem.W PySem.Calls PyProof.Rows Builtin
set_option maxRecDepth 100000
namespace Mine

/-! ## bytearray -/
theorem slot_ba_init : Slot "bytearray" "__init__" "bytearray.__init__" :=
  .of (owner := "bytearray") (n := "__init__") (by rw [typeLookup_type, builtinLookup_eq_fast]; kernel_rfl) (by decide +kernel) (by decide +kernel) (by decide +kernel)
    (by first | exact .inl (by decide +kernel) | exact .inr (by decide +kernel)) (by rw [isSubtype_type]; kernel_rfl)
theorem mro_ba : mroOf (.type "bytearray") = pure [.type "bytearray", .type "object"] := by rw [mroOf_type]; kernel_rfl
theorem look_ba_new : typeLookup (.type "bytearray") "__new__" = pure (some (.builtin "bytearray.__new__")) := by rw [typeLookup_type, builtinLookup_eq_fast]; kernel_rfl
theorem called_ba : TypeCalled "bytearray" "bytearray.__new__" "bytearray.__init__" :=
  ⟨by decide +kernel, by decide +kernel, ⟨_, _, mro_ba⟩, madeBy_type mro_ba look_ba_new (by decide +kernel), by decide +kernel, by rw [isSubtype_type]; kernel_rfl, slot_ba_init⟩
theorem typeCall_ba : checkTypeCall "bytearray" ⟨[], []⟩ = pure () := by kernel_rfl
theorem newCall_ba : checkBuiltinCall "bytearray.__new__" ⟨[.type "bytearray"], []⟩ = pure () := by kernel_rfl
theorem entry_ba_new : entryFor table "bytearray.__new__" = some Builtin.«list.__new__» := entryFor_alias (id' := "list.__new__") (by rw [fastTable_eq_tree]; kernel_rfl) (by kernel_rfl) (by kernel_rfl) (by rw [fastTable_eq_tree]; kernel_rfl)
theorem plain_ba_new : plainId "bytearray.__new__" = true := by decide +kernel
theorem entry_ba_init : entryFor table "bytearray.__init__" = some Builtin.«bytearray.__init__» := entryFor_of_tree (by kernel_rfl)
theorem plain_ba_init : plainId "bytearray.__init__" = true := by decide +kernel
set_option maxRecDepth 1000000 in
set_option maxHeartbeats 4000000 in
theorem owner_ba_new : ("bytearray.__new__".splitOn ".__new__").headD "" = "bytearray" := by simp +decide [String.splitOn, String.splitOnAux]
theorem sub_ba_self : isSubtype (.type "bytearray") (.type "bytearray") = pure true := by rw [isSubtype_type]; kernel_rfl

noncomputable abbrev baO (b : Octs) : Obj := { cls := .type "bytearray", data := .bytearray b.toArray }

section
variable {prog : Program} {w : World} {A : Around} {E : Value → Shared → Prop} {s : Shared}
theorem code_ba_new {Q₁ : Value → Shared → Prop} (h : Q₁ (.ref s.heap.objs.size) { s with heap := s.heap.push (baO []) }) :
    codeAny (model prog w) A (.call (.builtin "bytearray.__new__") ⟨[.type "bytearray"], []⟩) (wants Q₁ E) s := by
  refine codeAny_of_tree ?_
  show wpAny _ A.in1 (do checkBuiltinCall "bytearray.__new__" ⟨[.type "bytearray"], []⟩; again (.builtin "bytearray.__new__" ⟨[.type "bytearray"], []⟩)) _ _ s
  refine wpAny_bind (wpAny_of_eq newCall_ba (wpAny_pure ⟨plainId_quiet plain_ba_new _, codeAny_builtin_stack entry_ba_new rfl fun p st => ?_⟩))
  rw [Around.under_plainId plain_ba_new _]
  have hsub := sub_ba_self
  have hown := owner_ba_new
  obtain ⟨hp, g, d, tk, os⟩ := s
  simp only [hown]
  wp_walk
  exact h

theorem codeC_builtin {id : String} {args : Args} {b : Builtin} {R : Result → Shared → Prop} (hb : entryFor table id = some b)
    (h : wpC (model prog w) (A.under (.builtin id args)) (b args)
      (fun fin s' => match fin with | .done f => R (.ok f) s' | .again c' => c'.quiet = true ∧ holdsBuf c' = false ∧ codeC (model prog w) A c' R s') (fun e s' => R (.error e) s') s) :
    codeC (model prog w) A (.builtin id args) R s := by
  refine codeC_of_tree ?_
  show wpC _ _ (match entryFor table id with | some b => b args | none => unsupported ((withoutEnding? id "#data").getD id)) _ _ s
  rw [hb]; exact h
theorem codeC_call_builtin {id : String} {args : Args} {b : Builtin} {R : Result → Shared → Prop} (hq : plainId id = true) (hk : holdsBuf (.builtin id args) = false) (hb : entryFor table id = some b)
    (h : wpAny (model prog w) A.in1 (checkBuiltinCall id args) (fun _ s₁ => wpC (model prog w) A.in1 (b args)
      (fun fin s' => match fin with | .done f => R (.ok f) s' | .again c' => c'.quiet = true ∧ holdsBuf c' = false ∧ codeC (model prog w) A c' R s') (fun e s' => R (.error e) s') s₁)
      (fun e s' => R (.error e) s') s) : codeC (model prog w) A (.call (.builtin id) args) R s := by
  refine codeC_of_tree ?_
  show wpC _ A.in1 (do checkBuiltinCall id args; again (.builtin id args)) _ _ s
  refine wpC_bind (wpC_mono (wpC_of h) (fun _ s₁ h₁ => wpC_pure ⟨plainId_quiet hq args, hk, codeC_builtin hb ?_⟩) fun _ _ h' => h')
  rw [Around.under_plainId hq args]; exact h₁

theorem wpC_if_false {α : Type} {M : Model} {c : Bool} {a b : Sem α} {Q : α → Shared → Prop} (hc : c = false) (h : wpC M A b Q E s) : wpC M A (if c = true then a else b) Q E s := by
  subst hc; exact h
theorem wpC_if_true {α : Type} {M : Model} {c : Bool} {a b : Sem α} {Q : α → Shared → Prop} (hc : c = true) (h : wpC M A a Q E s) : wpC M A (if c = true then a else b) Q E s := by
  subst hc; exact h
theorem wpC_eq {α : Type} {M : Model} {t : Sem α} {a : α} {Q : α → Shared → Prop} (e : t = pure a) (h : Q a s) : wpC M A t Q E s := by rw [e]; exact wpC_pure h

theorem look_ba_release : typeLookup (.type "bytearray") "__release_buffer__" = pure (some (.builtin "bytearray.__release_buffer__")) := by rw [typeLookup_type, builtinLookup_eq_fast]; kernel_rfl
theorem bind_ba : Bytes.bindOptional "bytearray.__init__" "bytearray" ["source", "encoding", "errors"] [] [] = pure [none, none, none] := by kernel_rfl
theorem typeIs_ba {a : Addr} {o : Obj} (ho : s.heap.get? a = some o) (hc : o.cls = .type "bytearray") : s.TypeIs (.ref a) "bytearray" := ⟨o, ho, hc⟩
theorem owned_ba {a : Addr} {Q : Bool → Shared → Prop} {M : Model} (hT : s.TypeIs (.ref a) "bytearray") (h : Q false s) : wpAny M A (Bytes.ownRelease (.ref a)) Q E s := by
  unfold Bytes.ownRelease
  refine wpAny_bind ?_
  unfold Bytes.slotIsOwn
  refine wpAny_bind (wpAny_specialOf hT look_ba_release ?_)
  have key : ∀ x : String, x = "bytearray" → wpAny M A (isInstance (.ref a) (.type x)) (fun b s' => wpAny M A (pure (!b)) Q E s') E s := fun x hx => by
    rw [hx]
    exact wpAny_isInstance hT sub_ba_self (wpAny_pure h)
  show wpAny M A (if (!("bytearray.__release_buffer__".endsWith ("." ++ "__release_buffer__"))) = true then _ else isInstance (.ref a) (.type _)) _ _ _
  refine bm_if_false (by decide +kernel) ?_
  exact key _ (by decide +kernel)

theorem owner_ba : Manifest.owners.lookup (String.ofList ['y', 'a', 'r', 'r', 'a', 'e', 't', 'y', 'b'].reverse) = some Manifest.sig_bytearray := by kernel_rfl
theorem args_ba_init (a : Value) : argsOk "bytearray.__init__" ⟨[a], []⟩ := by
  unfold argsOk; rw [signature?_of (id := "bytearray.__init__") (n := ['_', '_', 't', 'i', 'n', 'i', '_', '_']) (o := ['y', 'a', 'r', 'r', 'a', 'e', 't', 'y', 'b']) (by kernel_rfl) owner_ba]; kernel_rfl
theorem exports_ba {M : Model} {a : Addr} {b : Octs} {Q : Nat → Shared → Prop} (ho : s.heap.get? a = some (baO b)) (h : Q 0 s) : wpAny M A (Bytes.exportsOf (.ref a)) Q E s := by
  unfold Bytes.exportsOf
  exact wpAny_bind (wpAny_load ho (wpAny_pure h))
theorem write_ba {M : Model} {a : Addr} {b c : Octs} {f : Array UInt8 → Array UInt8} {Q : Unit → Shared → Prop} (ho : s.heap.get? a = some (baO b)) (hf : f b.toArray = c.toArray) (hz : c.length ≤ sizeLine)
    (h : ∀ h', h'.get? a = some (baO c) → Heap.SameBut a s.heap h' → Q () { s with heap := h' }) : wpAny M A (Bytes.write (.ref a) f) Q E s := by
  show wpAny _ _ (updateBytearray a f) _ _ _
  unfold updateBytearray
  refine wpAny_bind (wpAny_load ho ?_)
  show wpAny _ _ (update a (Obj.mapBytearray f) >>= fun _ => lookBehind a) _ _ _
  refine wpAny_bind (wpAny_update ho ?_)
  have hS : (s.heap.update a (Obj.mapBytearray f)).get? a = some (baO c) := by
    rw [Heap.get?_update_self (Obj.mapBytearray f) ho rfl]
    show some ({ cls := .type "bytearray", data := .bytearray (f b.toArray) } : Obj) = _
    rw [hf]
  refine wpAny_lookBehind hS ?_ (h _ hS (Heap.SameBut.update ..))
  show (if c.toArray.size > sizeLine then some "bytearray:memory" else none) = none
  rw [if_neg]
  rw [List.size_toArray]
  omega

theorem hb_init : Bytes.decodersThatHold.contains "bytearray.__init__" = false := by decide +kernel
theorem hb_append : Bytes.decodersThatHold.contains "bytearray.append" = false := by decide +kernel
set_option maxHeartbeats 1000000 in
theorem newBytearray {Q : Value → Shared → Prop} (hg : A.guards = some []) (h : ∀ h', (∀ b o, s.heap.get? b = some o → h'.get? b = some o) → h'.get? s.heap.objs.size = some (baO []) → h'.objs.size = s.heap.objs.size + 1 → Q (.ref s.heap.objs.size) { s with heap := h' }) :
    wpC (model prog w) A (call (.type "bytearray") []) Q E s := by
  refine wpC_call (codeC_of_tree ?_)
  show wpC _ _ (callAny (.type "bytearray") _) _ _ _
  refine wpC_pure ⟨Code.quiet_builtin _ (by decide +kernel), (by decide +kernel), codeC_builtin F.entry_type_call ?_⟩
  rw [Around.under_plain (weight_type_call_type "bytearray" [] []) rfl]
  have h1 := called_ba.notType
  have h2 := called_ba.canCreate
  have hm := mro_ba
  have hmade := called_ba.made
  unfold Builtin.«type.__call__»
  refine wpC_if_false h1 ?_
  refine wpC_if_false h2 ?_
  refine wpC_bind (wpC_eq typeCall_ba ?_)
  refine wpC_bind (wpC_eq hm ?_)
  refine wpC_if_false rfl ?_
  refine wpC_bind (wpC_eq hmade ?_)
  refine wpC_bind (wpC_pure ?_)
  refine wpC_bind (wpC_holding (wpC_of (wpAny_call (code_ba_new ?_))))
  have hO : (s.heap.push (baO [])).get? s.heap.objs.size = some (baO []) := Heap.get?_push_size _ rfl
  have hT : ({ s with heap := s.heap.push (baO []) } : Shared).TypeIs (.ref s.heap.objs.size) "bytearray" := typeIs_ba hO rfl
  refine wpC_bind (wpC_of (wpAny_isInstance hT sub_ba_self ?_))
  refine wpC_if_false rfl ?_
  refine wpC_bind (wpC_holding ?_)
  unfold callSpecial?
  refine wpC_bind (wpC_of (wpAny_specialOf hT slot_ba_init.lookup ?_))
  dsimp only
  refine wpC_holding (wpC_bind (wpC_of ?_))
  have hbi := called_ba.init.bind (.ref s.heap.objs.size)
  refine wpAny_of_eq hbi (wpC_bind (wpC_call (codeC_call_builtin plain_ba_init hb_init entry_ba_init (slot_ba_init.check _ _ _ _ _ _ _ _ hT (args_ba_init _) ?_))))
  show wpC _ _ (Builtin.«bytearray.__init__» ⟨[Value.ref s.heap.objs.size], []⟩) _ _ _
  unfold Builtin.«bytearray.__init__»
  refine wpC_bind (wpC_of (owned_ba hT ?_))
  refine wpC_if_false rfl ?_
  refine wpC_bind (wpC_eq bind_ba ?_)
  dsimp only
  refine wpC_bind (wpC_eq (a := ()) rfl (wpC_bind (wpC_eq (a := ()) rfl ?_)))
  refine wpC_bind (wpC_bind (wpC_exported hg ?_))
  refine wpC_bind (wpC_of (exports_ba hO ?_))
  refine wpC_pure (wpC_if_false rfl ?_)
  refine wpC_bind (wpC_of (write_ba (b := []) (c := []) hO rfl (Nat.zero_le _) fun h' hO' hs => ?_))
  refine wpC_bind (wpC_if_false rfl (wpC_if_false rfl (wpC_pure (wpC_pure ?_))))
  refine wpC_pure ?_
  refine wpC_if_false rfl (wpC_pure ?_)
  refine h h' (fun b o e => ?_) hO' ?_
  · exact hs.extBut b o (Nat.ne_of_lt (Heap.lt_size e)) (Heap.get?_push_of_some _ e)
  · have := hs.1
    rw [this]
    exact Heap.size_push _ _

/-! ### append, len, bytes of it -/
theorem slot_ba_append : Slot "bytearray" "append" "bytearray.append" :=
  .of (owner := "bytearray") (n := "append") (by rw [typeLookup_type, builtinLookup_eq_fast]; kernel_rfl) (by decide +kernel) (by decide +kernel) (by decide +kernel)
    (by first | exact .inl (by decide +kernel) | exact .inr (by decide +kernel)) (by rw [isSubtype_type]; kernel_rfl)
theorem type_ba_append : typeOf (.builtin "bytearray.append") = pure (.type "method_descriptor") := by show builtinType _ = _; rw [builtinType_eq_fast]; kernel_rfl
theorem entry_ba_append : entryFor table "bytearray.append" = some Builtin.«bytearray.append» := entryFor_of_tree (by kernel_rfl)
theorem args_ba_append (a b : Value) : argsOk "bytearray.append" ⟨[a, b], []⟩ := by
  unfold argsOk; rw [signature?_of (id := "bytearray.append") (n := ['d', 'n', 'e', 'p', 'p', 'a']) (o := ['y', 'a', 'r', 'r', 'a', 'e', 't', 'y', 'b']) (by kernel_rfl) owner_ba]; kernel_rfl
theorem plainAttrs_ba : PlainAttrs "bytearray" :=
  ⟨⟨"bytearray.__getattribute__", by rw [typeLookup_type, builtinLookup_eq_fast]; kernel_rfl, by decide +kernel⟩, by rw [typeLookup_type, builtinLookup_eq_fast]; kernel_rfl⟩
theorem append_ba {a : Addr} {b : Octs} {i : Int} {t : Tok} {Q : Value → Shared → Prop} (hg : A.guards = some []) (ho : s.heap.get? a = some (baO b)) (h0 : 0 ≤ i) (h1 : i < 256) (hz : b.length + 1 ≤ 16777216)
    (h : ∀ h', h'.get? a = some (baO (b ++ [i.toNat.toUInt8])) → Heap.SameBut a s.heap h' → Q .none { s with heap := h' }) : wpC (model prog w) A (call (.builtin "bytearray.append") [.ref a, .int i t]) Q E s := by
  have hT : s.TypeIs (.ref a) "bytearray" := typeIs_ba ho rfl
  refine wpC_call (codeC_call_builtin slot_ba_append.plain hb_append entry_ba_append (slot_ba_append.check _ _ _ _ _ _ _ _ hT (args_ba_append _ _) ?_))
  unfold Builtin.«bytearray.append»
  refine wpC_bind (wpC_eq (a := (.ref a, .int i t)) rfl ?_)
  have hf : (decide (i < 0) || decide (i ≥ 256)) = false := by simp; omega
  refine wpC_bind ?_
  unfold Bytes.byteValue
  refine wpC_bind (wpC_eq (a := i) rfl ?_)
  refine wpC_if_false hf (wpC_pure ?_)
  refine wpC_bind ?_
  unfold Bytes.checkResize
  refine wpC_bind (wpC_bind (wpC_exported (A := A.in1) hg ?_))
  refine wpC_bind (wpC_of (exports_ba ho ?_))
  refine wpC_pure (wpC_if_false rfl (wpC_pure ?_))
  refine wpC_bind (wpC_of (write_ba (b := b) (c := b ++ [i.toNat.toUInt8]) ho (by simp) (by rw [sizeLine_eq]; simpa using hz) fun h' hO' hs => ?_))
  exact wpC_pure (h h' hO' hs)
end
end Mine
end R2S

section R3S
open PySem PySem.W PySem.Calls PyProof.Rows Builtin
set_option maxRecDepth 100000
namespace Mine
theorem slot_ba_len : Slot "bytearray" "__len__" "bytearray.__len__" :=
  .of (owner := "bytearray") (n := "__len__") (by rw [typeLookup_type, builtinLookup_eq_fast]; kernel_rfl) (by decide +kernel) (by decide +kernel) (by decide +kernel)
    (by first | exact .inl (by decide +kernel) | exact .inr (by decide +kernel)) (by rw [isSubtype_type]; kernel_rfl)
theorem entry_ba_len : entryFor table "bytearray.__len__" = some Builtin.«bytearray.__len__» := entryFor_of_tree (by kernel_rfl)
theorem args_ba_len (a : Value) : argsOk "bytearray.__len__" ⟨[a], []⟩ := by
  unfold argsOk; rw [signature?_of (id := "bytearray.__len__") (n := ['_', '_', 'n', 'e', 'l', '_', '_']) (o := ['y', 'a', 'r', 'r', 'a', 'e', 't', 'y', 'b']) (by kernel_rfl) owner_ba]; kernel_rfl
theorem ba_no_bytes : typeLookup (.type "bytearray") "__bytes__" = pure none := by rw [typeLookup_type, builtinLookup_eq_fast]; kernel_rfl
theorem ba_no_index : typeLookup (.type "bytearray") "__index__" = pure none := by rw [typeLookup_type, builtinLookup_eq_fast]; kernel_rfl
theorem ba_buffer : typeLookup (.type "bytearray") "__buffer__" = pure (some (.builtin "bytearray.__buffer__")) := by rw [typeLookup_type, builtinLookup_eq_fast]; kernel_rfl
section
variable {prog : Program} {w : World} {A : Around} {E : Value → Shared → Prop} {s : Shared} {a : Addr} {b : Octs}
theorem payload_ba {M : Model} {Q : Array UInt8 → Shared → Prop} (ho : s.heap.get? a = some (baO b)) (h : Q b.toArray s) : wpAny M A (Bytes.payload (.ref a)) Q E s := by
  unfold Bytes.payload Bytes.payload?
  refine wpAny_bind (wpAny_bind (wpAny_load ho ?_))
  exact wpAny_pure (wpAny_pure h)
theorem len_ba {Q : Value → Shared → Prop} (ho : s.heap.get? a = some (baO b)) (hz : b.length ≤ 16777216) (h : ∀ t k, Q (.int (b.length : Int) t) { s with toks := k }) : wpAny (model prog w) A (call (.builtin "len") [.ref a]) Q E s := by
  have hT : s.TypeIs (.ref a) "bytearray" := typeIs_ba ho rfl
  refine Calls.call_function_entry kind_len plain_len entry_len (args_len1 _) ?_
  unfold Builtin.«len»
  refine wpAny_bind (m := oneArg "len" _) (wpAny_pure ?_)
  have g : Meets («bytearray.__len__» ⟨[.ref a], []⟩) (fun _ R s => s.heap.get? a = some (baO b) ∧ ∀ t k, R (.ok (.ret (.int (b.length : Int) t))) { s with toks := k }) := by
    refine .of_wp fun prog w A R s ⟨ho, h⟩ => ?_
    unfold Builtin.«bytearray.__len__»
    refine wpAny_bind (wpAny_of_eq (a := (.ref a, [])) rfl ?_)
    refine wpAny_bind (payload_ba ho ?_)
    refine wpAny_bind (wpAny_mkInt (wpAny_pure ⟨_, rfl, ?_⟩))
    simpa using h s.toks (s.toks + 1)
  refine wpAny_bind (m := callSpecial? (.ref a) (Str.ofString "__len__")) (wpAny_callSpecial?_slot (name := Str.ofString "__len__") hT slot_ba_len (call_meets slot_ba_len hT entry_ba_len (args_ba_len _) g ⟨ho, fun t k => ?_⟩))
  refine wpAny_bind (wpAny_holding (wpAny_pure ?_))
  refine wpAny_bind (wpAny_letGo ?_)
  show wpAny _ _ (if (b.length : Int) < 0 then _ else _) _ _ _
  rw [if_neg (by omega)]
  show wpAny _ _ (if (b.length : Int) ≥ 2 ^ 63 then _ else _) _ _ _
  rw [if_neg (by omega)]
  exact wpAny_bind (wpAny_mkInt (wpAny_pure ⟨_, rfl, h _ _⟩))
theorem method_ba {M : Model} {pl : Sem Bool} {Q : Value × List Value → Shared → Prop} (ho : s.heap.get? a = some (baO b)) (h : Q (.builtin "bytearray.append", [.ref a]) s) : wpAny M A (getMethod (.ref a) "append" pl) Q E s := by
  with_reducible exact getMethod_builtin (typeIs_ba ho rfl) plainAttrs_ba slot_ba_append type_ba_append (fun x e => by cases e; exact ⟨_, ho, rfl⟩) h

theorem own_buffer_ba {M : Model} {Q : Bool → Shared → Prop} (hT : s.TypeIs (.ref a) "bytearray") (h : Q true s) : wpAny M A (Bytes.slotIsOwn (.ref a) "__buffer__") Q E s := by
  unfold Bytes.slotIsOwn
  refine wpAny_bind (wpAny_specialOf hT ba_buffer ?_)
  have key : ∀ x : String, x = "bytearray" → wpAny M A (isInstance (.ref a) (.type x)) Q E s := fun x hx => by
    rw [hx]
    exact wpAny_isInstance hT sub_ba_self h
  show wpAny M A (if (!("bytearray.__buffer__".endsWith ("." ++ "__buffer__"))) = true then _ else isInstance (.ref a) (.type _)) _ _ _
  refine bm_if_false (by decide +kernel) ?_
  exact key _ (by decide +kernel)
theorem buffer_ba {M : Model} {id : String} {full : Bool} {Q : Option (Array UInt8) → Shared → Prop} (ho : s.heap.get? a = some (baO b)) (h : Q (some b.toArray) s) : wpAny M A (Bytes.buffer? id (.ref a) full) Q E s := by
  have hT : s.TypeIs (.ref a) "bytearray" := typeIs_ba ho rfl
  unfold Bytes.buffer?
  refine wpAny_bind (wpAny_specialOf hT ba_buffer ?_)
  refine wpAny_bind (own_buffer_ba hT ?_)
  refine bm_if_false rfl ?_
  refine wpAny_bind (wpAny_specialOf hT ba_buffer ?_)
  refine wpAny_bind (owned_ba hT ?_)
  refine bm_if_false rfl ?_
  exact wpAny_bind (payload_ba ho (wpAny_pure h))

theorem meets_new_ba : Meets («bytes.__new__» ⟨[.type "bytes", .ref a], []⟩) (fun _ R s => s.heap.get? a = some (baO b) ∧ b.length ≤ sizeLine ∧ ∀ t k, R (.ok (.ret (.bytes b.toArray t))) { s with toks := k }) := by
  refine .of_wp fun prog w A R s ⟨ho, hz, h⟩ => ?_
  have hT : s.TypeIs (.ref a) "bytearray" := typeIs_ba ho rfl
  unfold Builtin.«bytes.__new__»
  refine wpAny_bind (wpAny_of_eq (a := true) rfl ?_)
  refine bm_if_false rfl ?_
  refine wpAny_bind (wpAny_of_eq F.bm_sub ?_)
  refine bm_if_false rfl ?_
  refine wpAny_bind (wpAny_of_eq (F.bm_bind _) ?_)
  refine wpAny_bind (wpAny_of_eq (a := ()) rfl ?_)
  refine wpAny_bind (wpAny_of_eq (a := ()) rfl ?_)
  refine bm_if_false rfl ?_
  refine wpAny_bind (wpAny_specialOf hT ba_no_bytes ?_)
  refine wpAny_bind (wpAny_bind ?_)
  show wpAny _ _ (load a >>= _) _ _ _
  refine wpAny_bind (wpAny_load ho ?_)
  refine wpAny_pure (wpAny_pure ?_)
  refine bm_if_false rfl ?_
  refine wpAny_bind (wpAny_specialOf hT ba_no_index ?_)
  refine bm_if_true rfl ?_
  refine wpAny_bind (buffer_ba ho ?_)
  refine wpAny_bind (wpAny_rule ?_)
  refine wpAny_bind (wpAny_mkBytes ?_ (by simpa using hz))
  show wpAny _ _ (if (Value.type "bytes" == Value.type "bytes") = true then _ else _) _ _ _
  refine bm_if_true (by decide) ?_
  first
    | exact wpAny_pure ⟨_, rfl, h _ _⟩
    | exact wpAny_bind (wpAny_pure (wpAny_pure ⟨_, rfl, h _ _⟩))
theorem bytes_ba {Q : Value → Shared → Prop} (ho : s.heap.get? a = some (baO b)) (hz : b.length ≤ 16777216) (h : ∀ t k, Q (.bytes b.toArray t) { s with toks := k }) : wpAny (model prog w) A (call (.type "bytes") [.ref a]) Q E s :=
  callType_new F.bm_called (by decide) (F.bm_typeCall _) (F.bm_newCall _) (fun obj => F.args_object_init_2 obj _) F.bm_entry meets_new_ba ⟨ho, by rw [sizeLine_eq]; exact hz, fun t k => ⟨typeIs_bytes _ _ _, h t k⟩⟩
end
end Mine
end R3S

section L0S
open PySem PySem.W PySem.Calls PyProof.Rows Builtin
set_option maxRecDepth 100000
namespace Mine

theorem fr_ext {h₀ h : Heap} {L : Addr} {m m' : Str → Option Value} (F : Fr h₀ L h m) (e : ∀ y, m y = m' y) : Fr h₀ L h m' := by
  have : m = m' := funext e
  subst this; exact F
theorem ite_sk {α : Type} {p : Prop} [Decidable p] {a b : α} (h : ¬ p) : (if p then a else b) = b := if_neg h

noncomputable def HoldW (P : Prop) : Prop := P
theorem hold_w {P : Prop} (h : HoldW P) : P := h
theorem hold_out {P : Prop} (h : P) : HoldW P := h

section
variable {prog : Program} {w : World} {A : Around} {s : Shared} {env : Env}
theorem noted_never {M : Model} {α : Type} {t : Sem α} {Q : α → Shared → Prop} {E : Value → Shared → Prop} (h : wpAny M A t Q never s) : wpAny M A t Q E s := wpAny_mono h (fun _ _ q => q) fun _ _ x => x.elim

theorem While_I {test : Expr} {body : List Stmt} {pos : Pos} {Q : Flow → Shared → Prop} (I : Nat → Shared → Prop)
    (turn : ∀ n s, I n s → wpAny (model prog w) A (isTrue test env (eval test env)) (fun b s₂ =>
        if b = true then wpAny (model prog w) A (execs body env) (fun f s₃ => match f with
            | .next | .cont => HoldW (∃ m, m < n ∧ I m s₃)
            | .brk => Q .next s₃
            | .ret v => Q (.ret v) s₃) never s₂
        else Q .next s₂) never s)
    (n : Nat) (h : I n s) : wpAny (model prog w) A (exec (.While test body [] pos) env) Q never s := by
  rw [exec_While]
  refine wpAny_bind (wpAny_standAt ?_)
  refine wpAny_runOwn (codeAny_mono (codeAny_whileLoop (R := fun r s' => match r with | .ok f => Q f s' | .error _ => False) I (fun n s hI => ?_) n h) fun r s' hr => ?_)
  · refine noted_never (wpAny_mono (turn n s hI) (fun b s₂ hb => ?_) fun _ _ x => x)
    cases b with
    | true => exact noted_never (wpAny_mono hb (fun f s₃ q => by cases f <;> exact q) fun _ _ x => x)
    | false => exact wpAny_execs_nil hb
  · cases r with
    | ok f => exact hr
    | error e => exact hr.elim

theorem go_list {target : Expr} {I l : Addr} {i : Nat} {v : Value} {E : Value → Shared → Prop} {Q : Unit → Shared → Prop} (hit : s.heap.IsListIter I l i) (hQ : Q () s) : wpAny (model prog w) A (letOwnedTupleGo target (.ref I) v) Q E s := by
  cases target with
  | Tuple elts x pos =>
    cases v with
    | ref T => exact wpAny_letOwnedTupleGo_listiter hit hQ
    | _ => exact wpAny_pure hQ
  | List elts pos =>
    cases v with
    | ref T => exact (wpAny_letOwnedTupleGo_listiter hit hQ : wpAny (model prog w) A (letOwnedTupleGo (.Tuple [] 0 pos) (.ref I) (.ref T)) Q E s)
    | _ => exact wpAny_pure hQ
  | _ => exact wpAny_pure hQ

noncomputable def TurnEnd' (h₀ : Heap) (L : Addr) (s : Shared) (it : Addr) (io : Obj) (J : (Str → Option Value) → List (Addr × Obj) → Prop) (s₃ : Shared) : Prop :=
  ∃ h' tk' m' led', s₃ = { s with heap := h', toks := tk' } ∧ Fr h₀ L h' m' ∧ News h₀ L h' ((it, io) :: led') ∧ (∀ p ∈ led', p.1 ≠ it) ∧ J m' led'
noncomputable def TurnPost' (h₀ : Heap) (L : Addr) (s : Shared) (it : Addr) (io : Obj) (J : (Str → Option Value) → List (Addr × Obj) → Prop) (Q : Flow → Shared → Prop) (f : Flow) (s₃ : Shared) : Prop :=
  match f with
  | .ret v => Q (.ret v) s₃
  | .brk => Q .next s₃
  | _ => HoldW (TurnEnd' h₀ L s it io J s₃)

theorem news_mem {h₀ h : Heap} {L : Addr} {led led' : List (Addr × Obj)} (N : News h₀ L h led) (hs : ∀ p ∈ led', p ∈ led) : News h₀ L h led' := fun p hp => N p (hs p hp)

noncomputable abbrev WalkI (s : Shared) (h₀ : Heap) (L I : Addr) (n : Nat) (St : Nat → Heap → Prop) (J : Nat → (Str → Option Value) → List (Addr × Obj) → Prop) (k : Nat) (s₂ : Shared) : Prop := ∃ i h tk m led, s₂ = { s with heap := h, toks := tk } ∧ i ≤ n ∧ k = n + 1 - i ∧ J i m led ∧ Fr h₀ L h m ∧ News h₀ L h led ∧ (∀ p ∈ led, p.1 ≠ I) ∧ St i h
theorem walk_loop {target : Expr} {body : List Stmt} {Q : Flow → Shared → Prop} {h₀ : Heap} {L I : Addr} {fp : List Addr} {n : Nat} {P : Nat → Value → Prop} {St : Nat → Heap → Prop} {m : Str → Option Value} {led : List (Addr × Obj)} (J : Nat → (Str → Option Value) → List (Addr × Obj) → Prop)
    (W : Walks prog w A I fp [I] n P St) (hIo : ∀ i h, St i h → ∃ o, h.get? I = some o)
    (hgo : ∀ i v (s' : Shared) (Q : Unit → Shared → Prop), St i s'.heap → Q () s' → wpAny (model prog w) A (letOwnedTupleGo target (.ref I) v) Q never s')
    (hst' : ∀ i h h' io m led, St i h → h.get? I = some io → h'.get? I = some io → J i m led → Fr h₀ L h' m → News h₀ L h' led → St i h')
    (hLI : L ≠ I) (hI0 : h₀.get? I = none) (hst : St 0 s.heap) (F : Fr h₀ L s.heap m) (N : News h₀ L s.heap led) (off : ∀ p ∈ led, p.1 ≠ I) (hJ : J 0 m led)
    (turn : ∀ i v m led h tk io, i < n → P i v → J i m led → Fr h₀ L h m → News h₀ L h ((I, io) :: led) → (∀ p ∈ led, p.1 ≠ I) →
      wpAny (model prog w) A (assign target env v) (fun _ s₂ => wpAny (model prog w) A (execs body env) (TurnPost' h₀ L s I io (J (i + 1)) Q) never s₂) never { s with heap := h, toks := tk })
    (done : ∀ m led h tk, J n m led → Fr h₀ L h m → News h₀ L h led → Q .next { s with heap := h, toks := tk }) :
    codeAny (model prog w) A (.forLoop target (.ref I) body [] env) (fun r s' => match r with | .ok f => Q f s' | .error _ => False) s := by
  refine codeAny_forLoop_any
    (WalkI s h₀ L I n St J) ?_ (n + 1)
    ⟨0, _, _, m, led, rfl, Nat.zero_le _, rfl, hJ, F, N, off, hst⟩
  rintro k s₂ ⟨i, h, tk, m₁, led₁, rfl, hi, rfl, hJ₁, F₁, N₁, hoff, hit⟩
  by_cases hlt : i < n
  · refine noted_never (W.item i _ _ _ hlt hit fun v h' tk₂ hP hit' hk => ?_)
    have F₂ := LCg.fr_but F₁ hk hLI hI0
    have N₂ := LCg.news_but N₁ hk hoff
    obtain ⟨io, hio⟩ := hIo _ _ hit'
    have N₃ : News h₀ L h' ((I, io) :: led₁) := fun p hp => by
      rcases List.mem_cons.mp hp with rfl | hp
      · exact ⟨hio, Ne.symm hLI, hI0⟩
      · exact N₂ p hp
    refine noted_never (hgo _ v _ _ hit' ?_)
    refine noted_never (wpAny_mono (turn i v m₁ led₁ h' tk₂ io hlt hP hJ₁ F₂ N₃ hoff) (fun _ s₃ h₃ => noted_never (wpAny_mono h₃ (fun f s₄ h₄ => ?_) fun _ _ x => x)) fun _ _ x => x)
    have fin : TurnEnd' h₀ L s I io (J (i + 1)) s₄ → ∃ k, k < n + 1 - i ∧ WalkI s h₀ L I n St J k s₄ := by
      rintro ⟨h'', tk'', m'', led'', rfl, F'', N'', hoff'', hJ''⟩
      exact ⟨n + 1 - (i + 1), by omega, i + 1, h'', tk'', m'', led'', rfl, hlt, rfl, hJ'', F'', (fun p hp => N'' p (.tail _ hp)), hoff'', hst' _ _ _ io _ _ hit' hio (N'' _ (.head _)).1 hJ'' F'' fun p hp => N'' p (.tail _ hp)⟩
    cases f with
    | ret v => exact h₄
    | brk => exact h₄
    | next => exact fin h₄
    | cont => exact fin h₄
  · obtain rfl : i = n := Nat.le_antisymm hi (Nat.not_lt.mp hlt)
    refine noted_never (W.done _ _ _ hit fun h' tk₂ hk => ?_)
    refine wpAny_execs_nil ?_
    exact done m₁ led₁ h' tk₂ hJ₁ (LCg.fr_but F₁ hk hLI hI0) (LCg.news_but N₁ hk hoff)
theorem fresh_it {h₀ h : Heap} {L : Addr} {m : Str → Option Value} (F : Fr h₀ L h m) : L ≠ h.objs.size ∧ h₀.get? h.objs.size = none :=
  ⟨Nat.ne_of_lt F.ns.lt, by
    cases q : h₀.get? h.objs.size with
    | none => rfl
    | some o => exact absurd (Heap.lt_size (F.keep _ _ q)) (Nat.lt_irrefl _)⟩
theorem news_up {h₀ h : Heap} {L : Addr} {led : List (Addr × Obj)} (N : News h₀ L h led) (o : Obj) : News h₀ L (h.push o) led := fun p hp => ⟨Heap.get?_push_of_some _ (N p hp).1, (N p hp).2⟩
theorem For_list2 {target iter : Expr} {body : List Stmt} {pos : Pos} {Q : Flow → Shared → Prop} {h₀ : Heap} {L : Addr} (J : Addr → List Value → Nat → (Str → Option Value) → List (Addr × Obj) → Prop)
    (hh : A.handled = none)
    (hl : ∀ l vs i m led h, J l vs i m led → Fr h₀ L h m → News h₀ L h led → h.IsList l vs.toArray ∧ l ≠ L)
    (hiter : wpAny (model prog w) A (eval iter env) (fun v s₁ => ∃ l vs, v = .ref l ∧ (∃ h tk, s₁ = { s with heap := h, toks := tk }) ∧ ∃ m led, Fr h₀ L s₁.heap m ∧ News h₀ L s₁.heap led ∧ J l vs 0 m led) never s)
    (turn : ∀ l vs i v m led h tk it io, vs[i]? = some v → J l vs i m led → Fr h₀ L h m → News h₀ L h ((it, io) :: led) → (∀ p ∈ led, p.1 ≠ it) →
      wpAny (model prog w) A (assign target env v) (fun _ s₂ => wpAny (model prog w) A (execs body env) (TurnPost' h₀ L s it io (J l vs (i + 1)) Q) never s₂) never { s with heap := h, toks := tk })
    (done : ∀ l vs m led h tk, J l vs vs.length m led → Fr h₀ L h m → News h₀ L h led → Q .next { s with heap := h, toks := tk })
    (hs : ∀ x, foldedSetIterable iter env x = pure x := by intro _; rfl) :
    wpAny (model prog w) A (exec (.For target iter body [] pos) env) Q never s := by
  refine wpAny_For (wpAny_mono hiter (fun v s₁ h₁ => ?_) fun _ _ x => x.elim) hs
  obtain ⟨l, vs, rfl, ⟨H, T, rfl⟩, m, led, F, N, hJ⟩ := h₁
  obtain ⟨hls, hne⟩ := hl l vs 0 m led H hJ F N
  refine wpAny_pyIter_list hls ?_
  obtain ⟨ol, hol, _⟩ := id hls
  refine codeAny_mono (walk_loop (J l vs) (Walks.list hh H.objs.size l (Nat.ne_of_lt (Heap.lt_size hol)) vs.toArray) (fun i h st => ⟨_, st.1.choose_spec.1⟩) (fun i v s' Q st q => go_list st.1 q)
    (fun i h h' io m led st e e' hJ F N => ⟨st.1.at fun o x => by rw [e] at x; cases x; exact e', (hl l vs i m led h' hJ F N).1⟩) (fresh_it F).1 (fresh_it F).2 ⟨⟨_, Heap.get?_push_size _ rfl, rfl, rfl⟩, hls.push _⟩ (F.push _) (news_up N _) (fun p hp => Nat.ne_of_lt (Heap.lt_size (N p hp).1)) hJ
    (fun i v m led h tk io hi hP hJ F N off => turn l vs i v m led h tk _ io (by simpa using hP) hJ F N off) fun m led h tk hJ F N => done l vs m led h tk (by simpa using hJ) F N) fun r s' hr => ?_
  cases r with
  | ok f => exact hr
  | error e => exact hr.elim
theorem For_list {target iter : Expr} {body : List Stmt} {pos : Pos} {Q : Flow → Shared → Prop} {h₀ : Heap} {L l : Addr} {vs : List Value} (J : Nat → (Str → Option Value) → List (Addr × Obj) → Prop)
    (hh : A.handled = none)
    (hl : ∀ i m led h, J i m led → Fr h₀ L h m → News h₀ L h led → h.IsList l vs.toArray ∧ l ≠ L)
    (hiter : wpAny (model prog w) A (eval iter env) (fun v s₁ => v = .ref l ∧ (∃ h tk, s₁ = { s with heap := h, toks := tk }) ∧ ∃ m led, Fr h₀ L s₁.heap m ∧ News h₀ L s₁.heap led ∧ J 0 m led) never s)
    (turn : ∀ i v m led h tk it io, vs[i]? = some v → J i m led → Fr h₀ L h m → News h₀ L h ((it, io) :: led) → (∀ p ∈ led, p.1 ≠ it) →
      wpAny (model prog w) A (assign target env v) (fun _ s₂ => wpAny (model prog w) A (execs body env) (TurnPost' h₀ L s it io (J (i + 1)) Q) never s₂) never { s with heap := h, toks := tk })
    (done : ∀ m led h tk, J vs.length m led → Fr h₀ L h m → News h₀ L h led → Q .next { s with heap := h, toks := tk })
    (hs : ∀ x, foldedSetIterable iter env x = pure x := by intro _; rfl) :
    wpAny (model prog w) A (exec (.For target iter body [] pos) env) Q never s :=
  For_list2 (fun l' vs' i m led => l' = l ∧ vs' = vs ∧ J i m led) hh (fun l' vs' i m led h hJ F N => by obtain ⟨rfl, rfl, q⟩ := hJ; exact hl i m led h q F N)
    (wpAny_mono hiter (fun v s₁ q => by
      obtain ⟨e, x, m, led, F, N, hJ⟩ := q
      exact ⟨l, vs, e, x, m, led, F, N, rfl, rfl, hJ⟩) fun _ _ x => x)
    (fun l' vs' i v m led h tk it io hv hJ F N off => by
      obtain ⟨rfl, rfl, q⟩ := hJ
      refine wpAny_mono (turn i v m led h tk it io hv q F N off) (fun _ s₂ h₂ => wpAny_mono h₂ (fun f s₃ h₃ => ?_) fun _ _ x => x) fun _ _ x => x
      have up : TurnEnd' h₀ L s it io (J (i + 1)) s₃ → TurnEnd' h₀ L s it io (fun m led => l' = l' ∧ vs' = vs' ∧ J (i + 1) m led) s₃ := fun ⟨a, b, c, d, e1, e2, e3, e4, e5⟩ => ⟨a, b, c, d, e1, e2, e3, e4, rfl, rfl, e5⟩
      cases f with
      | ret v => exact h₃
      | brk => exact h₃
      | next => exact up h₃
      | cont => exact up h₃)
    (fun l' vs' m led h tk hJ F N => by obtain ⟨rfl, rfl, q⟩ := hJ; exact done m led h tk q F N) hs
end
end Mine
end L0S

section C0S
open PySem PySem.W PySem.Calls PyProof.Rows Builtin
set_option maxRecDepth 100000
namespace Mine
open PySem.SeqAt

noncomputable abbrev tupO (vs : List Value) : Obj := { cls := .type "tuple", data := .seq vs.toArray }
noncomputable def IsPair (h : Heap) (v : Value) (r : Octs × Octs) : Prop := ∃ p t₁ t₂, v = .ref p ∧ h.get? p = some (tupO [.bytes r.1.toArray t₁, .bytes r.2.toArray t₂])
theorem pair_end {h : Heap} {p : Addr} {a c : Octs} {t₁ t₂ : Tok} {r : Octs × Octs} (hg : h.get? p = some (tupO [.bytes a.toArray t₁, .bytes c.toArray t₂])) (ha : a = r.1) (hc : c = r.2) : IsPair h (.ref p) r := by
  subst ha hc; exact ⟨p, t₁, t₂, rfl, hg⟩
theorem IsPair.keeps {h h' : Heap} {v r} (q : IsPair h v r) (e : Ext h h') : IsPair h' v r := by
  obtain ⟨p, t₁, t₂, rfl, hg⟩ := q; exact ⟨p, t₁, t₂, rfl, e _ _ hg⟩
inductive PairsAre (h : Heap) : List Value → List (Octs × Octs) → Prop
  | nil : PairsAre h [] []
  | cons {v r vs rs} : IsPair h v r → PairsAre h vs rs → PairsAre h (v :: vs) (r :: rs)
theorem PairsAre.keeps {h h' : Heap} {vs rs} (q : PairsAre h vs rs) (e : Ext h h') : PairsAre h' vs rs := by
  induction q with
  | nil => exact .nil
  | cons a _ ih => exact .cons (a.keeps e) ih
theorem PairsAre.length {h : Heap} {vs rs} (q : PairsAre h vs rs) : vs.length = rs.length := by induction q <;> simp_all
theorem PairsAre.append {h : Heap} {vs rs vs' rs'} (q : PairsAre h vs rs) (q' : PairsAre h vs' rs') : PairsAre h (vs ++ vs') (rs ++ rs') := by
  induction q with
  | nil => exact q'
  | cons a _ ih => exact .cons a ih
theorem PairsAre.one {h : Heap} {v r} (a : IsPair h v r) : PairsAre h [v] [r] := .cons a .nil
theorem PairsAre.get {h : Heap} {vs rs} (q : PairsAre h vs rs) : ∀ {i : Nat} {v : Value}, vs[i]? = some v → ∃ r, IsPair h v r ∧ rs[i]? = some r := by
  induction q with
  | nil => intro i v h; simp at h
  | cons a _ ih =>
    intro i v h
    cases i with
    | zero => simp at h; subst h; exact ⟨_, a, by simp⟩
    | succ i => simp at h; obtain ⟨r, b, c⟩ := ih h; exact ⟨r, b, by simpa using c⟩

section
variable {A : Around} {s : Shared}
theorem eqAt_bytes (b c : Octs) (t u : Tok) : EqAt A s (.bytes b.toArray t) (.bytes c.toArray u) (b == c) := fun prog w E Q h => by
  unfold eqBool
  refine wpAny_holding ?_
  refine wpAny_ite_split (fun hab => ?_) (fun _ => ?_)
  · have := eq_of_beq hab
    injection this with h1 h2
    have h1 : b = c := by simpa using congrArg Array.toList h1
    subst h1
    rw [beq_self_eq_true] at h
    exact wpAny_bind (wpAny_rule (wpAny_pure h))
  · exact wpAny_bind (eq_bytes (wpAny_truthy_bool h))
theorem eqAt_pair {v u : Value} {r q : Octs × Octs} (hu : A.units < cLine) (a : IsPair s.heap v r) (b : IsPair s.heap u q) : EqAt A s v u (r == q) := by
  obtain ⟨p, t₁, t₂, rfl, hg⟩ := a
  obtain ⟨p', u₁, u₂, rfl, hg'⟩ := b
  by_cases e : p = p'
  · subst e
    rw [hg] at hg'
    injection hg' with hg'
    injection hg' with _ _ hd _
    simp at hd
    have : r = q := Prod.ext hd.1.1 hd.2.1
    subst this
    rw [beq_self_eq_true]; exact EqAt.same _
  · refine EqAt.of_refs e ?_
    have h0 := RcAt.tuples (A := A) (s := s) (e := fun j => if j = 0 then r.1 == q.1 else r.2 == q.2) ⟨_, hg, rfl, _, rfl⟩ ⟨_, hg', rfl, _, rfl⟩ hu (fun j h1 h2 => by
      match j, h1, h2 with
      | 0, _, _ => exact eqAt_bytes _ _ _ _
      | 1, _, _ => exact eqAt_bytes _ _ _ _)
    have e2 : ((List.range (min ([Value.bytes r.1.toArray t₁, .bytes r.2.toArray t₂] : List Value).toArray.size ([Value.bytes q.1.toArray u₁, .bytes q.2.toArray u₂] : List Value).toArray.size)).all (fun j => if j = 0 then r.1 == q.1 else r.2 == q.2) && ([Value.bytes r.1.toArray t₁, .bytes r.2.toArray t₂] : List Value).toArray.size == ([Value.bytes q.1.toArray u₁, .bytes q.2.toArray u₂] : List Value).toArray.size) = (r == q) := by
      obtain ⟨r1, r2⟩ := r
      obtain ⟨q1, q2⟩ := q
      show ((List.range 2).all _ && true) = ((r1 == q1) && (r2 == q2))
      simp [List.range_succ]
    rw [e2] at h0
    exact h0

theorem all_range_eq {α : Type} [BEq α] [LawfulBEq α] : ∀ {xs ys : List α}, xs.length = ys.length → (List.range xs.length).all (fun j => xs[j]? == ys[j]?) = (xs == ys)
  | xs, ys, h => by
    rw [Bool.eq_iff_iff, List.all_eq_true, beq_iff_eq]
    constructor
    · intro q
      refine List.ext_getElem? fun i => ?_
      by_cases hi : i < xs.length
      · exact eq_of_beq (q i (List.mem_range.mpr hi))
      · rw [List.getElem?_eq_none (by omega), List.getElem?_eq_none (by omega)]
    · rintro rfl j _; exact beq_self_eq_true _

section
variable {prog : Program} {w : World} {E : Value → Shared → Prop} {Q : Value → Shared → Prop}
theorem ne_lists {α : Type} [BEq α] [LawfulBEq α] {l m : Addr} {vs us : List Value} {xs ys : List α} (hl : s.heap.IsList l vs.toArray) (hm : s.heap.IsList m us.toArray) (hx : vs.length = xs.length) (hy : us.length = ys.length) (hu : A.units < cLine)
    (he : ∀ j (h1 : j < vs.length) (h2 : j < us.length) (h3 : j < xs.length) (h4 : j < ys.length), EqAt A.in1 s vs[j] us[j] (xs[j] == ys[j])) (h : Q (.bool (!(xs == ys))) s) :
    wpAny (model prog w) A (compareOp .NotEq (.ref l) (.ref m)) Q E s := by
  show wpAny (model prog w) A (richCompare .NotEq (.ref l) (.ref m)) Q E s
  by_cases hn : vs.length = us.length
  · refine RcNeAt.lists (e := fun j => xs[j]? == ys[j]?) hl hm (by simpa using hn) hu (fun j h1 h2 => ?_) prog w E Q ?_
    · have h1' : j < vs.length := by simpa using h1
      have h2' : j < us.length := by simpa using h2
      have := he j h1' h2' (by omega) (by omega)
      rw [List.getElem?_eq_getElem (by omega), List.getElem?_eq_getElem (by omega)]
      simpa using this
    · rw [List.size_toArray, hx, all_range_eq (by omega)]; exact h
  · refine RcNeAt.lists_lengths hl hm (by simpa using hn) hu prog w E Q ?_
    have : (xs == ys) = false := by
      rw [beq_eq_false_iff_ne]; rintro rfl; omega
    rw [this] at h; exact h
theorem eq_lists {α : Type} [BEq α] [LawfulBEq α] {l m : Addr} {vs us : List Value} {xs ys : List α} (hl : s.heap.IsList l vs.toArray) (hm : s.heap.IsList m us.toArray) (hx : vs.length = xs.length) (hy : us.length = ys.length) (hu : A.units < cLine)
    (he : ∀ j (h1 : j < vs.length) (h2 : j < us.length) (h3 : j < xs.length) (h4 : j < ys.length), EqAt A.in1 s vs[j] us[j] (xs[j] == ys[j])) (h : Q (.bool (xs == ys)) s) :
    wpAny (model prog w) A (compareOp .Eq (.ref l) (.ref m)) Q E s := by
  by_cases hn : vs.length = us.length
  · refine eq_listAt (e := fun j => xs[j]? == ys[j]?) hl hm (by simpa using hn) hu (fun j h1 h2 => ?_) ?_
    · have h1' : j < vs.length := by simpa using h1
      have h2' : j < us.length := by simpa using h2
      have := he j h1' h2' (by omega) (by omega)
      rw [List.getElem?_eq_getElem (by omega), List.getElem?_eq_getElem (by omega)]
      simpa using this
    · rw [List.size_toArray, hx, all_range_eq (by omega)]; exact h
  · refine eq_list_lengthsAt hl hm (by simpa using hn) hu ?_
    have : (xs == ys) = false := by
      rw [beq_eq_false_iff_ne]; rintro rfl; omega
    rw [this] at h; exact h
/-- a list against the empty one -/
theorem eq_nil {l m : Addr} {vs : List Value} (hl : s.heap.IsList l vs.toArray) (hm : s.heap.IsList m #[]) (hu : A.units < cLine) (h : Q (.bool (vs.length == 0)) s) :
    wpAny (model prog w) A (compareOp .Eq (.ref l) (.ref m)) Q E s := by
  refine eq_lists (α := Nat) (vs := vs) (us := []) (xs := List.replicate vs.length 0) (ys := []) hl hm (by simp) rfl hu (fun j h1 h2 => absurd h2 (by simp)) ?_
  cases vs with
  | nil => exact h
  | cons v vs => exact h
theorem ne_nil {l m : Addr} {vs : List Value} (hl : s.heap.IsList l vs.toArray) (hm : s.heap.IsList m #[]) (hu : A.units < cLine) (h : Q (.bool (!(vs.length == 0))) s) :
    wpAny (model prog w) A (compareOp .NotEq (.ref l) (.ref m)) Q E s := by
  refine ne_lists (α := Nat) (vs := vs) (us := []) (xs := List.replicate vs.length 0) (ys := []) hl hm (by simp) rfl hu (fun j h1 h2 => absurd h2 (by simp)) ?_
  cases vs with
  | nil => exact h
  | cons v vs => exact h
theorem eq_nil_nil {l m : Addr} (hl : s.heap.IsList l ([] : List Value).toArray) (hm : s.heap.IsList m #[]) (hu : A.units < cLine) (h : Q (.bool true) s) :
    wpAny (model prog w) A (compareOp .Eq (.ref l) (.ref m)) Q E s := eq_nil hl hm hu h
theorem eq_nil_cons {l m : Addr} {v : Value} {vs : List Value} (hl : s.heap.IsList l (v :: vs).toArray) (hm : s.heap.IsList m #[]) (hu : A.units < cLine) (h : Q (.bool false) s) :
    wpAny (model prog w) A (compareOp .Eq (.ref l) (.ref m)) Q E s := eq_nil hl hm hu h
theorem ne_nil_nil {l m : Addr} (hl : s.heap.IsList l ([] : List Value).toArray) (hm : s.heap.IsList m #[]) (hu : A.units < cLine) (h : Q (.bool false) s) :
    wpAny (model prog w) A (compareOp .NotEq (.ref l) (.ref m)) Q E s := ne_nil hl hm hu h
theorem ne_nil_cons {l m : Addr} {v : Value} {vs : List Value} (hl : s.heap.IsList l (v :: vs).toArray) (hm : s.heap.IsList m #[]) (hu : A.units < cLine) (h : Q (.bool true) s) :
    wpAny (model prog w) A (compareOp .NotEq (.ref l) (.ref m)) Q E s := ne_nil hl hm hu h
theorem ne_bytesLists {l m : Addr} {vs us : List Value} {bs cs : List Octs} (hl : s.heap.IsList l vs.toArray) (hm : s.heap.IsList m us.toArray) (hb : BytesAre vs bs) (hc : BytesAre us cs) (hu : A.units < cLine) (h : Q (.bool (!(bs == cs))) s) :
    wpAny (model prog w) A (compareOp .NotEq (.ref l) (.ref m)) Q E s := by
  refine ne_lists (α := Octs) hl hm hb.length hc.length hu (fun j h1 h2 h3 h4 => ?_) h
  obtain ⟨b, t, e, e'⟩ := hb.get (List.getElem?_eq_getElem h1)
  obtain ⟨c, u, f, f'⟩ := hc.get (List.getElem?_eq_getElem h2)
  rw [List.getElem?_eq_getElem h3] at e'
  rw [List.getElem?_eq_getElem h4] at f'
  cases e'; cases f'
  rw [e, f]; exact eqAt_bytes _ _ _ _
theorem ne_pairLists {l m : Addr} {vs us : List Value} {bs cs : List (Octs × Octs)} (hl : s.heap.IsList l vs.toArray) (hm : s.heap.IsList m us.toArray) (hb : PairsAre s.heap vs bs) (hc : PairsAre s.heap us cs) (hu : A.units + 1 < cLine) (h : Q (.bool (!(bs == cs))) s) :
    wpAny (model prog w) A (compareOp .NotEq (.ref l) (.ref m)) Q E s := by
  refine ne_lists (α := Octs × Octs) hl hm hb.length hc.length (by omega) (fun j h1 h2 h3 h4 => ?_) h
  obtain ⟨b, e, e'⟩ := hb.get (List.getElem?_eq_getElem h1)
  obtain ⟨c, f, f'⟩ := hc.get (List.getElem?_eq_getElem h2)
  rw [List.getElem?_eq_getElem h3] at e'
  rw [List.getElem?_eq_getElem h4] at f'
  cases e'; cases f'
  exact eqAt_pair (show A.in1.units < cLine from hu) e f
theorem ne_pairs {v u : Value} {r q : Octs × Octs} (hu : A.units < cLine) (a : IsPair s.heap v r) (b : IsPair s.heap u q) (h : Q (.bool (!(r == q))) s) :
    wpAny (model prog w) A (compareOp .NotEq v u) Q E s := by
  obtain ⟨p, t₁, t₂, rfl, hg⟩ := a
  obtain ⟨p', u₁, u₂, rfl, hg'⟩ := b
  show wpAny (model prog w) A (richCompare .NotEq (.ref p) (.ref p')) Q E s
  refine RcNeAt.tuples (A := A) (s := s) (e := fun j => if j = 0 then r.1 == q.1 else r.2 == q.2) ⟨_, hg, rfl, _, rfl⟩ ⟨_, hg', rfl, _, rfl⟩ hu (fun j h1 h2 => by
    match j, h1, h2 with
    | 0, _, _ => exact eqAt_bytes _ _ _ _
    | 1, _, _ => exact eqAt_bytes _ _ _ _) prog w E Q ?_
  have e2 : ((List.range (min ([Value.bytes r.1.toArray t₁, .bytes r.2.toArray t₂] : List Value).toArray.size ([Value.bytes q.1.toArray u₁, .bytes q.2.toArray u₂] : List Value).toArray.size)).all (fun j => if j = 0 then r.1 == q.1 else r.2 == q.2) && ([Value.bytes r.1.toArray t₁, .bytes r.2.toArray t₂] : List Value).toArray.size == ([Value.bytes q.1.toArray u₁, .bytes q.2.toArray u₂] : List Value).toArray.size) = (r == q) := by
    obtain ⟨r1, r2⟩ := r
    obtain ⟨q1, q2⟩ := q
    show ((List.range 2).all _ && true) = ((r1 == q1) && (r2 == q2))
    simp [List.range_succ]
  rw [e2]; exact h
end
end
end Mine
end C0S

section L1S
open PySem PySem.W PySem.Calls PyProof.Rows PyProof.Rows.LCg Builtin
set_option maxRecDepth 100000
set_option maxHeartbeats 1000000
namespace Mine
noncomputable abbrev Ledger := List (Addr × Obj)
/-- the end of a turn of a comprehension -/
noncomputable def CEnd (H : Heap) (C : Addr) (s : Shared) (I : Addr) (oI : Obj) (D : Addr) (ys : List Value) (J : Ledger → Prop) (s₃ : Shared) : Prop :=
  ∃ h' tk' m' led', s₃ = { s with heap := h', toks := tk' } ∧ Fr H C h' m' ∧ News H C h' ((I, oI) :: (D, lst ys) :: led') ∧ (∀ p ∈ led', p.1 ≠ I ∧ p.1 ≠ D) ∧ J led'

section
variable {prog : Program} {w : World} {A : Around} {s : Shared} {env : Env}
/-- a turn of a comprehension -/
noncomputable def CTurn (prog : Program) (w : World) (A : Around) (s : Shared) (env : Env) (elt target : Expr) (ifs : List Expr) (scope : Scope) (cl : List (Str × Addr)) (H : Heap) (I : Addr) (P : Nat → Value → Prop) (J : Nat → List Value → Ledger → Prop) : Prop :=
  ∀ i v ys led h tk m' oI C D, P i v → J i ys led → Fr H C h m' → News H C h ((I, oI) :: (D, lst ys) :: led) → (∀ p ∈ led, p.1 ≠ I ∧ p.1 ≠ D) →
    wpAny (model prog w) A (assign target (compEnvC scope cl C env) v) (fun _ s₃ =>
      wpAny (model prog w) A (forIn ifs true fun c r => if r = true then do let ok ← isTrue c (compEnvC scope cl C env) (eval c (compEnvC scope cl C env)); pure (ForInStep.yield ok) else pure (ForInStep.yield r))
        (fun ok s₄ => if ok = true then wpAny (model prog w) A (eval elt (compEnvC scope cl C env)) (fun x s₅ => HoldW (CEnd H C s I oI D ys (J (i + 1) (ys ++ [x])) s₅)) never s₄
          else HoldW (CEnd H C s I oI D ys (J (i + 1) ys) s₄)) never s₃) never { s with heap := h, toks := tk }

theorem compLoop_own {elt target iter : Expr} {ifs : List Expr} {scope : Scope} {pos : Pos} {it acc : Value} {env : Env} {R : Result → Shared → Prop} (I : Nat → Shared → Prop)
    (turn : ∀ n s, I n s → wpAny (model prog w) A (pyNext it) (fun r s₁ => match r with
      | none => R (.ok .next) s₁
      | some v => wpAny (model prog w) A (letOwnedTupleGo target it v) (fun _ s₁' => wpAny (model prog w) A (assign target env v) (fun _ s₂ =>
          wpAny (model prog w) A (forIn ifs true fun c r => if r = true then do let ok ← isTrue c env (eval c env); pure (ForInStep.yield ok) else pure (ForInStep.yield r)) (fun ok s₃ =>
            if ok = true then wpAny (model prog w) A (eval elt env) (fun x s₄ =>
              wpAny (model prog w) A (call (.builtin "list.append") [acc, x]) (fun _ s₅ => ∃ m, m < n ∧ I m s₅) never s₄) never s₃
            else ∃ m, m < n ∧ I m s₃) never s₂) never s₁') never s₁) never s)
    (n : Nat) (h : I n s) :
    codeAny (model prog w) A (.compLoop (.ListComp elt [⟨target, iter, ifs, 0⟩] scope pos) 0 it acc env) R s := by
  refine codeAny_loop rfl I (fun n s hI => ?_) n h
  show wpAny _ A ((compTurn (.ListComp elt [⟨target, iter, ifs, 0⟩] scope pos) 0 it acc env).onRaise (fun x => do noteFrame x env; theTreesLotGoes x)) _ _ s
  refine wpAny_noted ?_
  rw [compTurn_list]
  refine noted_never ?_
  refine wpAny_bind (wpAny_standAt (wpAny_bind (wpAny_mono (turn n s hI) (fun r s₁ h₁ => ?_) fun _ _ h' => h')))
  cases r with
  | none => exact wpAny_pure h₁
  | some v =>
    refine wpAny_bind (wpAny_mono h₁ (fun _ s₁' h₁' => ?_) fun _ _ h' => h')
    refine wpAny_bind (wpAny_mono h₁' (fun _ s₂ h₂ => wpAny_bind (wpAny_mono h₂ (fun ok s₃ h₃ => ?_) fun _ _ h' => h')) fun _ _ h' => h')
    cases ok with
    | false => exact wpAny_pure ⟨rfl, h₃⟩
    | true =>
      exact wpAny_bind (wpAny_bind (wpAny_mono h₃ (fun x s₄ h₄ => wpAny_bind (wpAny_mono h₄ (fun _ s₅ h₅ => wpAny_pure (wpAny_pure ⟨rfl, h₅⟩)) fun _ _ h' => h')) fun _ _ h' => h'))

noncomputable abbrev CompI (s : Shared) (H : Heap) (C D I : Addr) (n : Nat) (St : Nat → Heap → Prop) (J : Nat → List Value → Ledger → Prop) (k : Nat) (s' : Shared) : Prop := ∃ h' tk i ys m' led, s' = { s with heap := h', toks := tk } ∧ i ≤ n ∧ k = n + 1 - i ∧ ys.length ≤ i ∧ St i h' ∧ Fr H C h' m' ∧ News H C h' ((D, lst ys) :: led) ∧
        (∀ p ∈ led, p.1 ≠ I ∧ p.1 ≠ D) ∧ J i ys led

theorem comp_block2 {led₀ : Ledger} {elt target iter : Expr} {ifs : List Expr} {scope : Scope} {cl : List (Str × Addr)} {pos : Pos} {I : Addr} {fp : List Addr} {n : Nat} {P : Nat → Value → Prop} {St : Nat → Heap → Prop} {H : Heap} {J : Nat → List Value → Ledger → Prop}
    {RR : Value → Addr → Result → Shared → Prop} {E : Value → Shared → Prop}
    (W : Walks prog w A I fp [I] n P St) (hsz : n ≤ sizeLine) (hIo : ∀ i h, St i h → ∃ o, h.get? I = some o) (hfp : ∀ b ∈ fp, b = I ∨ ∃ o, H.get? b = some o)
    (hHle : H.objs.size ≤ I) (N0 : ∀ p ∈ led₀, s.heap.get? p.1 = some p.2 ∧ H.get? p.1 = none) (off0 : ∀ p ∈ led₀, p.1 ≠ I) (hI : I < s.heap.objs.size) (keep : Ext H s.heap) (hst : St 0 s.heap) (hJ : J 0 [] led₀)
    (hcell : ∀ y ∈ scope.names, y.2 ≠ .cell) (hkind : scope.kind = .function) (hgo : ∀ i v (s' : Shared) (Q : Unit → Shared → Prop), St i s'.heap → Q () s' → wpAny (model prog w) A (letOwnedTupleGo target (.ref I) v) Q never s')
    (turn : CTurn prog w A s env elt target ifs scope cl H I P J)
    (fin : ∀ C D ys led h tk m', J n ys led → Fr H C h m' → News H C h ((D, lst ys) :: led) → (∀ p ∈ led, p.1 ≠ D) → RR (.ref D) C (.ok .next) { s with heap := h, toks := tk }) :
    wpAny (model prog w) A (newList []) (fun acc s₃ => wpAny (model prog w) A (newFunctionEnv scope env.globals cl [] env.qual none .none (some env)) (fun cenv s₄ =>
      codeAny (model prog w) A (.compStart (.ListComp elt [⟨target, iter, ifs, 0⟩] scope pos) 0 (.ref I) acc { cenv with scope := relabel scope env }) (RR acc cenv.locals) s₄) E s₃) E s := by
  refine wpAny_newObj_type (wpAny_newFunctionEnv hcell (by intro y hy; simp at hy) (fun h₁ hns₁ hsb₁ => ?_) hkind)
  dsimp only at hns₁ hsb₁ ⊢
  generalize hH2 : s.heap.push { cls := .type "list", dict := none, data := .seq ([] : List Value).toArray } = H2 at hns₁ hsb₁ ⊢
  have hC : H2.objs.size = s.heap.objs.size + 1 := by rw [← hH2, Heap.size_push]
  have hDC : s.heap.objs.size ≠ H2.objs.size := by rw [hC]; exact Nat.ne_of_lt (Nat.lt_succ_self _)
  have below : ∀ b, b < s.heap.objs.size → b ≠ H2.objs.size ∧ b ≠ s.heap.objs.size := fun b hb => ⟨by rw [hC]; exact Nat.ne_of_lt (Nat.lt_succ_of_lt hb), Nat.ne_of_lt hb⟩
  have old : ∀ b o, s.heap.get? b = some o → h₁.get? b = some o := fun b o e => hsb₁.extBut b o (below b (Heap.lt_size e)).1 (Heap.get?_push_of_some _ (hH2 ▸ Heap.get?_push_of_some _ e))
  have hacc : h₁.get? s.heap.objs.size = some (lst []) := hsb₁.extBut _ _ hDC (Heap.get?_push_of_some _ (hH2 ▸ Heap.get?_push_size _ rfl))
  have hDf : s.heap.objs.size ∉ fp := fun hm => by
    rcases hfp _ hm with e | ⟨o, e⟩
    · exact (below I hI).2 e.symm
    · exact Nat.lt_irrefl _ (Heap.lt_size (keep _ _ e))
  have hCf : H2.objs.size ∉ fp := fun hm => by
    rcases hfp _ hm with e | ⟨o, e⟩
    · exact (below I hI).1 e.symm
    · exact (below _ (Heap.lt_size (keep _ _ e))).1 rfl
  have fresh : ∀ a, s.heap.objs.size ≤ a → H.get? a = none := fun a ha => by
    cases e : H.get? a with
    | none => rfl
    | some o' => exact absurd (Heap.lt_size (keep _ _ e)) (Nat.not_lt.mpr ha)
  have hI0 : H.get? I = none := Heap.get?_none_of_le hHle
  have hD₀ : H.get? s.heap.objs.size = none := fresh _ (Nat.le_refl _)
  have hC₀ : H.get? H2.objs.size = none := fresh _ (by rw [hC]; exact Nat.le_succ _)
  have hCI : I ≠ H2.objs.size := (below I hI).1
  have hDI : I ≠ s.heap.objs.size := (below I hI).2
  have hst₁ : St 0 h₁ := W.frame _ _ _ hst fun b _ o e => old b o e
  have F₁ : Fr H H2.objs.size h₁ (fun x => ([] : List (Str × Value)).reverse.lookup x) := ⟨hns₁, fun b o e => old b o (keep b o e), by rw [hC]; exact Nat.le_trans hHle (Nat.le_of_lt (Nat.lt_succ_of_lt hI))⟩
  have loop : ∀ s₃ : Shared, s₃ = { s with heap := h₁, toks := s.toks + ([] : List (Str × Value)).length } →
      codeAny (model prog w) A (.compLoop (.ListComp elt [⟨target, iter, ifs, 0⟩] scope pos) 0 (.ref I) (.ref s.heap.objs.size) (compEnvC scope cl H2.objs.size env))
        (RR (.ref s.heap.objs.size) H2.objs.size) s₃ := by
    rintro s₃ rfl
    refine compLoop_own
      (CompI s H H2.objs.size s.heap.objs.size I n St J) ?_ (n + 1)
      ⟨h₁, _, 0, [], _, led₀, rfl, Nat.zero_le _, rfl, Nat.le_refl _, hst₁, F₁, fun p hp => ?_, (fun p hp => ⟨off0 p hp, (below _ (Heap.lt_size (N0 p hp).1)).2⟩), hJ⟩
    · rintro k s' ⟨h', tk, i, ys, m', led, rfl, hi, rfl, hyl, hst', F', N', off', hJ'⟩
      have offI : ∀ p ∈ ((s.heap.objs.size, lst ys) :: led : Ledger), p.1 ≠ I := fun p hp => by
        rcases List.mem_cons.mp hp with rfl | hp
        · exact Ne.symm hDI
        · exact (off' p hp).1
      by_cases hlt : i < n
      · refine W.item i _ _ _ hlt hst' fun v h₂ tk₂ hPv hst₂ hk₂ => ?_
        have F₂ := fr_but F' hk₂ (Ne.symm hCI) hI0
        have N₂ := news_but N' hk₂ offI
        obtain ⟨oI, heI⟩ := hIo _ _ hst₂
        have N₂' : News H H2.objs.size h₂ ((I, oI) :: (s.heap.objs.size, lst ys) :: led) := fun p hp => by
          rcases List.mem_cons.mp hp with rfl | hp
          · exact ⟨heI, hCI, hI0⟩
          · exact N₂ p hp
        have stUp : ∀ h₅ oI', h₅.get? I = some oI' → oI' = oI → (∀ b o, H.get? b = some o → h₅.get? b = some o) → St (i + 1) h₅ := fun h₅ oI' e1 e2 e3 => W.frame _ _ _ hst₂ fun b hb o e => by
          rcases hfp b hb with rfl | ⟨o', e'⟩
          · rw [heI] at e; cases e; rw [e1, e2]
          · rw [F₂.keep b o' e'] at e; cases e; exact e3 b _ e'
        refine hgo _ v _ _ hst₂ ?_
        refine wpAny_mono (turn i v ys led h₂ tk₂ m' oI H2.objs.size s.heap.objs.size hPv hJ' F₂ N₂' off') (fun _ s₃ h₃ => noted_never (wpAny_mono h₃ (fun ok s₄ h₄ => ?_) fun _ _ x => x)) fun _ _ x => x.elim
        cases ok with
        | true =>
          simp only [if_true] at h₄ ⊢
          refine noted_never (wpAny_mono h₄ (fun x s₅ h₅ => ?_) fun _ _ x => x)
          obtain ⟨h₅, tk₅, m₅, led₅, rfl, F₅, N₅, off₅, hJ₅⟩ := (show CEnd H H2.objs.size s I oI s.heap.objs.size ys (J (i + 1) (ys ++ [x])) s₅ from h₅)
          have zD := (N₅ (s.heap.objs.size, lst ys) (List.mem_cons_of_mem _ List.mem_cons_self)).1
          have zI := (N₅ (I, oI) List.mem_cons_self).1
          refine append_at (hsz := by show ys.toArray.size ≤ sizeLine; rw [List.size_toArray]; exact Nat.le_trans (Nat.le_trans hyl hi) hsz) zD fun h₆ hs₆ hD₆ => ?_
          have F₆ : Fr H H2.objs.size h₆ m₅ := F₅.change hs₆ hDC hD₀
          refine ⟨n + 1 - (i + 1), by omega, h₆, tk₅, i + 1, ys ++ [x], m₅, led₅, rfl, hlt, rfl, by rw [List.length_append, List.length_singleton]; exact Nat.succ_le_succ hyl, stUp h₆ oI (hs₆.extBut _ _ hDI zI) rfl F₆.keep, F₆, fun p hp => ?_, off₅, hJ₅⟩
          rcases List.mem_cons.mp hp with rfl | hp
          · exact ⟨hD₆.trans (congrArg some (lst_snoc ys x)), hDC, hD₀⟩
          · have z := N₅ p (List.mem_cons_of_mem _ (List.mem_cons_of_mem _ hp))
            exact ⟨hs₆.extBut _ _ (off₅ p hp).2 z.1, z.2⟩
        | false =>
          simp only [Bool.false_eq_true, if_false] at h₄ ⊢
          obtain ⟨h₅, tk₅, m₅, led₅, rfl, F₅, N₅, off₅, hJ₅⟩ := (show CEnd H H2.objs.size s I oI s.heap.objs.size ys (J (i + 1) ys) s₄ from h₄)
          have zI := (N₅ (I, oI) List.mem_cons_self).1
          exact ⟨n + 1 - (i + 1), by omega, h₅, tk₅, i + 1, ys, m₅, led₅, rfl, hlt, rfl, Nat.le_succ_of_le hyl, stUp h₅ oI zI rfl F₅.keep, F₅, fun p hp => N₅ p (List.mem_cons_of_mem _ hp), off₅, hJ₅⟩
      · obtain rfl : i = n := Nat.le_antisymm hi (Nat.not_lt.mp hlt)
        refine W.done _ _ _ hst' fun h₂ tk₂ hk₂ => ?_
        exact fin _ _ ys led h₂ tk₂ m' hJ' (fr_but F' hk₂ (Ne.symm hCI) hI0) (news_but N' hk₂ offI) fun p hp => (off' p hp).2
    · rcases List.mem_cons.mp hp with rfl | hp
      · exact ⟨hacc, hDC, hD₀⟩
      · exact ⟨old _ _ (N0 p hp).1, (below _ (Heap.lt_size (N0 p hp).1)).1, (N0 p hp).2⟩
  exact codeAny_compStart_list (loop _ rfl) (W.self 0 _ _ _ hst₁ (loop _ rfl))

theorem comprehension_first {e : Expr} {scope : Scope} {pos : Pos} {newAcc first : Sem Value} {use : Option (Value → Sem Unit)} :
    comprehension e scope env pos newAcc false first use = first >>= fun x => comprehension e scope env pos newAcc false (pure x) use := rfl

/-- what follows a comprehension's end: the outer frame and ledger stand, the new list is on top -/
theorem outer_up {h₀ H h : Heap} {L C D : Addr} {m m' : Str → Option Value} {led0 led : Ledger} {o : Obj} (F : Fr h₀ L H m) (N : News h₀ L H led0) (F' : Fr H C h m') (N' : News H C h ((D, o) :: led)) :
    Fr h₀ L h m ∧ News h₀ L h ((D, o) :: (led ++ led0)) := by
  have up : Ext H h := F'.keep
  refine ⟨⟨F.ns.keeps up, fun b o e => up b o (F.keep b o e), F.above⟩, fun p hp => ?_⟩
  have new : ∀ q : Addr × Obj, q ∈ ((D, o) :: led : Ledger) → h.get? q.1 = some q.2 ∧ q.1 ≠ L ∧ h₀.get? q.1 = none := fun q hq => by
    have z := N' q hq
    refine ⟨z.1, ?_, ?_⟩
    · rintro e
      have := F.ns.lt
      obtain ⟨oL, a1, a2, hoL, a3⟩ := F.ns
      rw [e, hoL] at z; exact nomatch z.2.2
    · cases e : h₀.get? q.1 with
      | none => rfl
      | some o' => rw [F.keep _ _ e] at z; exact nomatch z.2.2
  rcases List.mem_cons.mp hp with rfl | hp
  · exact new _ (.head _)
  · rcases List.mem_append.mp hp with hp | hp
    · exact new p (.tail _ hp)
    · exact ⟨up _ _ (N p hp).1, (N p hp).2⟩

theorem after_comp {h₀ H h h'' : Heap} {L C D : Addr} {m m' : Str → Option Value} {led0 led : Ledger} {o : Obj} (F : Fr h₀ L H m) (N : News h₀ L H led0) (F' : Fr H C h m') (N' : News H C h ((D, o) :: led)) (off : ∀ p ∈ led, p.1 ≠ D) (hs'' : Heap.SameBut C h h'') :
    Fr h₀ L h'' m ∧ News h₀ L h'' ((D, o) :: (led ++ led0)) ∧ ∀ p ∈ led ++ led0, p.1 ≠ D := by
  have hC0 : H.get? C = none := by
    cases e : H.get? C with
    | none => rfl
    | some o => exact absurd (Heap.lt_size e) (Nat.not_lt.mpr F'.above)
  have F2 : ∀ b o, b ≠ C → h.get? b = some o → h''.get? b = some o := fun b o hb e => hs''.extBut b o hb e
  obtain ⟨G1, G2⟩ := outer_up F N F' N'
  have hCL : L ≠ C := fun e => by
    obtain ⟨oL, _, _, hoL, _⟩ := F.ns
    rw [e, hC0] at hoL; exact nomatch hoL
  refine ⟨⟨G1.ns.at' fun o e => F2 _ _ hCL e, fun b o e => F2 b o (fun q => ?_) (G1.keep b o e), G1.above⟩, (fun p hp => ⟨F2 _ _ ?_ (G2 p hp).1, (G2 p hp).2⟩), ?_⟩
  · rw [q] at e
    have := F.keep _ _ e
    rw [hC0] at this; exact nomatch this
  · rcases List.mem_cons.mp hp with rfl | hp
    · exact (N' _ (.head _)).2.1
    · rcases List.mem_append.mp hp with hp | hp
      · exact (N' _ (.tail _ hp)).2.1
      · intro e
        have := (N p hp).1
        rw [e, hC0] at this; exact nomatch this
  · intro p hp
    rcases List.mem_append.mp hp with hp | hp
    · exact off p hp
    · intro e
      have := (N p hp).1
      rw [e, (N' _ (.head _)).2.2] at this; exact nomatch this

section
variable {elt target iter : Expr} {ifs : List Expr} {scope : Scope} {cl : List (Str × Addr)} {pos pos' : Pos} {J : Nat → List Value → Ledger → Prop} {use : Option (Value → Sem Unit)} {Q : Value → Shared → Prop} {h₀ : Heap} {L : Addr} {m : Str → Option Value} {led0 : Ledger}

theorem core_list {l : Addr} {vs : List Value} (hl : s.heap.IsList l vs.toArray) (hh : A.handled = none)
    (hclos : closureFor scope env = pure cl) (hcell : (scope.names.all fun y => decide (y.2 ≠ .cell)) = true) (hkind : scope.kind = .function) (hnames : ∀ x ∈ scope.names, x.2 = .local → scope.names.lookup x.1 = some .local)
    (hsz : vs.length ≤ 16777216) (hJ : J 0 [] [])
    (turn : ∀ H2, CTurn prog w A { s with heap := H2 } env elt target ifs scope cl s.heap s.heap.objs.size (fun i v => vs[i]? = some v) J)
    (fin : ∀ C D ys led h tk m', J vs.length ys led → Fr s.heap C h m' → News s.heap C h ((D, lst ys) :: led) → (∀ p ∈ led, p.1 ≠ D) → compPost (model prog w) A never use Q (.ref D) C (.ok .next) { s with heap := h, toks := tk })
    (hs : ∀ x, foldedSetIterable iter env x = pure x := by intro _; rfl) :
    wpAny (model prog w) A (comprehension (.ListComp elt [⟨target, iter, ifs, 0⟩] scope pos) scope env pos' (newList []) false (pure (.ref l)) use) Q never s := by
  refine wpAny_comprehension_free rfl hs hclos hkind hnames (wpAny_pure ?_)
  refine wpAny_pyIter_list hl ?_
  obtain ⟨ol, hol, _⟩ := id hl
  have hlt : l < s.heap.objs.size := Heap.lt_size hol
  have up : Ext s.heap (s.heap.push { cls := .type "list_iterator", data := .fields #[.ref l, .int 0 0] }) := fun b o e => Heap.get?_push_of_some _ e
  refine comp_block2 (led₀ := []) (H := s.heap) (J := J) (Walks.list hh s.heap.objs.size l (Nat.ne_of_lt hlt) vs.toArray) (by rw [List.size_toArray, sizeLine_eq]; exact hsz) (fun i h st => by obtain ⟨o, e, _⟩ := st.1; exact ⟨o, e⟩) (fun b hb => ?_) (Nat.le_refl _) (fun p hp => nomatch hp) (fun p hp => nomatch hp)
    (by show _ < (s.heap.push _).objs.size; rw [Heap.size_push]; exact Nat.lt_succ_self _) up ⟨⟨_, Heap.get?_push_size _ rfl, rfl, rfl⟩, hl.push _⟩ hJ (fun x hx => of_decide_eq_true (List.all_eq_true.mp hcell x hx)) hkind (fun i v s' Q st hQ => go_list st.1 hQ) (by simpa using turn _) fin
  rcases List.mem_cons.mp hb with rfl | hb
  · exact .inl rfl
  · rw [List.mem_singleton.mp hb]; exact .inr ⟨_, hol⟩

theorem range_walksN {I : Addr} (hh : A.handled = none) (n : Nat) : Walks prog w A I [I] [I] n (fun i v => i < n ∧ ∃ t, v = .int (i : Int) t) (fun i h => IsRangeIter h I (0 + (i : Nat) * 1) ((n : Int) - (i : Nat)) 1) :=
  let W := range_walks (prog := prog) (w := w) (I := I) hh 0 n
  { sub := W.sub, frame := W.frame, done := W.done, self := W.self,
    item := fun i s Q E hi st hQ => W.item i s Q E hi st fun v h' tk hP => hQ v h' tk (by obtain ⟨t, rfl⟩ := hP; exact ⟨hi, t, by rw [Int.zero_add]⟩) }

theorem core_range2 {elt target iter : Expr} {ifs : List Expr} {scope : Scope} {cl : List (Str × Addr)} {pos pos' : Pos} {J : Nat → List Value → Ledger → Prop} {use : Option (Value → Sem Unit)} {Q : Value → Shared → Prop} {h₀ : Heap} {led₀ : Ledger} (hle : h₀.objs.size ≤ s.heap.objs.size) (keep : Ext h₀ s.heap) (N0 : ∀ p ∈ led₀, s.heap.get? p.1 = some p.2 ∧ h₀.get? p.1 = none) {r : Addr} {n : Nat} {t u v : Tok} (hr : IsRange s.heap r 0 n 1 t u v) (hh : A.handled = none)
    (hclos : closureFor scope env = pure cl) (hcell : (scope.names.all fun y => decide (y.2 ≠ .cell)) = true) (hkind : scope.kind = .function) (hnames : ∀ x ∈ scope.names, x.2 = .local → scope.names.lookup x.1 = some .local)
    (hsz : n ≤ 16777216) (hJ : J 0 [] led₀)
    (turn : ∀ H2, CTurn prog w A { s with heap := H2 } env elt target ifs scope cl h₀ s.heap.objs.size (fun i v => i < n ∧ ∃ t, v = .int (i : Int) t) J)
    (fin : ∀ C D ys led h tk m', J n ys led → Fr h₀ C h m' → News h₀ C h ((D, lst ys) :: led) → (∀ p ∈ led, p.1 ≠ D) → compPost (model prog w) A never use Q (.ref D) C (.ok .next) { s with heap := h, toks := tk })
    (hs : ∀ x, foldedSetIterable iter env x = pure x := by intro _; rfl) (ht : ∀ it v, letOwnedTupleGo target it v = pure () := by intro _ _; rfl) :
    wpAny (model prog w) A (comprehension (.ListComp elt [⟨target, iter, ifs, 0⟩] scope pos) scope env pos' (newList []) false (pure (.ref r)) use) Q never s := by
  refine wpAny_comprehension_free rfl hs hclos hkind hnames (wpAny_pure ?_)
  have hsm : Builtin.Range.small 0 n 1 = true := small_one (by decide) (by decide) (by omega) (by omega)
  have hn : Builtin.Range.rangeSize 0 n 1 = ((n : Nat) : Int) := by rw [rangeSize_nat]; omega
  refine wpAny_pyIter_range hr hsm ?_
  refine comp_block2 (H := h₀) (J := J) (range_walksN hh n) (by rw [sizeLine_eq]; exact hsz) (fun i h st => ⟨_, st⟩) (fun b hb => .inl (List.mem_singleton.mp hb)) hle (fun p hp => ⟨Heap.get?_push_of_some _ (N0 p hp).1, (N0 p hp).2⟩) (fun p hp => Nat.ne_of_lt (Heap.lt_size (N0 p hp).1))
    (by show _ < (s.heap.push _).objs.size; rw [Heap.size_push]; exact Nat.lt_succ_self _) (fun b o e => Heap.get?_push_of_some _ (keep b o e)) (by show IsRangeIter _ _ _ _ _; rw [hn]; simpa using Heap.get?_push_size _ rfl) hJ (fun x hx => of_decide_eq_true (List.all_eq_true.mp hcell x hx)) hkind (fun i v s' Q st hQ => by rw [ht]; exact wpAny_pure hQ) (turn _) fin


theorem core_range {r : Addr} {n : Nat} {t u v : Tok} (hr : IsRange s.heap r 0 n 1 t u v) (hh : A.handled = none)
    (hclos : closureFor scope env = pure cl) (hcell : (scope.names.all fun y => decide (y.2 ≠ .cell)) = true) (hkind : scope.kind = .function) (hnames : ∀ x ∈ scope.names, x.2 = .local → scope.names.lookup x.1 = some .local)
    (hsz : n ≤ 16777216) (hJ : J 0 [] [])
    (turn : ∀ H2, CTurn prog w A { s with heap := H2 } env elt target ifs scope cl s.heap s.heap.objs.size (fun i v => i < n ∧ ∃ t, v = .int (i : Int) t) J)
    (fin : ∀ C D ys led h tk m', J n ys led → Fr s.heap C h m' → News s.heap C h ((D, lst ys) :: led) → (∀ p ∈ led, p.1 ≠ D) → compPost (model prog w) A never use Q (.ref D) C (.ok .next) { s with heap := h, toks := tk })
    (hs : ∀ x, foldedSetIterable iter env x = pure x := by intro _; rfl) (ht : ∀ it v, letOwnedTupleGo target it v = pure () := by intro _ _; rfl) :
    wpAny (model prog w) A (comprehension (.ListComp elt [⟨target, iter, ifs, 0⟩] scope pos) scope env pos' (newList []) false (pure (.ref r)) use) Q never s :=
  core_range2 (h₀ := s.heap) (led₀ := []) (Nat.le_refl _) (fun _ _ e => e) (fun p hp => nomatch hp) hr hh hclos hcell hkind hnames hsz hJ turn fin hs ht

theorem post_none {C D : Addr} {ys : List Value} {led : Ledger} {h : Heap} {tk : Nat} {m' : Str → Option Value} (F : Fr h₀ L s.heap m) (N : News h₀ L s.heap led0) (F' : Fr s.heap C h m') (N' : News s.heap C h ((D, lst ys) :: led)) (off : ∀ p ∈ led, p.1 ≠ D)
    (fin : ∀ h'', Fr h₀ L h'' m → News h₀ L h'' ((D, lst ys) :: (led ++ led0)) → (∀ p ∈ led ++ led0, p.1 ≠ D) → Q (.ref D) { s with heap := h'', toks := tk }) :
    compPost (model prog w) A never none Q (.ref D) C (.ok .next) { s with heap := h, toks := tk } :=
  ⟨m', F'.ns, fun h'' hs'' => let ⟨a, b, c⟩ := after_comp F N F' N' off hs''; fin h'' a b c⟩

theorem post_assign {y : Str} {py : Pos} {C D : Addr} {ys : List Value} {led : Ledger} {h : Heap} {tk : Nat} {m' : Str → Option Value} (F : Fr h₀ env.locals s.heap m) (N : News h₀ env.locals s.heap led0) (F' : Fr s.heap C h m') (N' : News s.heap C h ((D, lst ys) :: led)) (off : ∀ p ∈ led, p.1 ≠ D)
    (hy : env.kindOf y = some .local) (hp : (env.scope.kind == .class || (env.scope.kind == .module && env.locals != env.globals)) = false)
    (fin : ∀ h'' tk'', Fr h₀ env.locals h'' (fun z => if z = y then some (.ref D) else m z) → News h₀ env.locals h'' ((D, lst ys) :: (led ++ led0)) → (∀ p ∈ led ++ led0, p.1 ≠ D) → Q .none { s with heap := h'', toks := tk'' }) :
    compPost (model prog w) A never (some (assign (.Name y py) env)) Q (.ref D) C (.ok .next) { s with heap := h, toks := tk } := by
  obtain ⟨G1, G2, G3⟩ := after_comp F N F' N' off (h'' := h) ⟨rfl, fun _ _ => rfl⟩
  have hC0 : s.heap.get? C = none := by
    cases e : s.heap.get? C with
    | none => rfl
    | some o => exact absurd (Heap.lt_size e) (Nat.not_lt.mpr F'.above)
  have hCL : C ≠ env.locals := fun e => by
    obtain ⟨oL, _, _, hoL, _⟩ := F.ns
    rw [← e, hC0] at hoL; exact nomatch hoL
  have hC1 : h₀.get? C = none := by
    cases e : h₀.get? C with
    | none => rfl
    | some o => have := F.keep _ _ e; rw [hC0] at this; exact nomatch this
  refine wpAny_assign_Name (wpAny_storeName_local hy G1.ns (fun h₂ hn₂ hs₂ => ?_) hp)
  refine ⟨m', F'.ns.sameBut hs₂ hCL, fun h'' hs'' => ?_⟩
  have F2 : Fr h₀ env.locals h₂ (fun z => if z = y then some (.ref D) else m z) := G1.set hn₂ hs₂
  have N2 := G2.set hs₂
  refine fin h'' _ (F2.change hs'' hCL hC1) (fun p hp => ⟨hs''.extBut _ _ ?_ (N2 p hp).1, (N2 p hp).2⟩) G3
  rcases List.mem_cons.mp hp with rfl | hp
  · exact (N' _ (.head _)).2.1
  · rcases List.mem_append.mp hp with hp | hp
    · exact (N' _ (.tail _ hp)).2.1
    · intro e
      have := (N p hp).1
      rw [e, hC0] at this; exact nomatch this

/-- the parts of a comprehension's statement -/
theorem eval_comp {E : Value → Shared → Prop} (h : wpAny (model prog w) A (eval iter env) (fun x s₁ => wpAny (model prog w) A (comprehension (.ListComp elt [⟨target, iter, ifs, 0⟩] scope pos) scope env (firstIterPos [⟨target, iter, ifs, 0⟩] pos) (newList []) false (pure x) none) Q E s₁) E s) :
    wpAny (model prog w) A (eval (.ListComp elt [⟨target, iter, ifs, 0⟩] scope pos) env) Q E s := by
  rw [eval_ListComp]
  show wpAny _ _ (comprehension (.ListComp elt [⟨target, iter, ifs, 0⟩] scope pos) scope env _ (newList []) false (eval iter env) none) _ _ _
  rw [comprehension_first]
  exact wpAny_bind h
theorem assign_comp {y : Str} {py spos : Pos} {E : Value → Shared → Prop} {Q : Flow → Shared → Prop} (hsw : swapsWith (.ListComp elt [⟨target, iter, ifs, 0⟩] scope pos) (some (.Name y py)) spos.line env = pure true)
    (h : wpAny (model prog w) A (eval iter env) (fun x s₁ => wpAny (model prog w) A (comprehension (.ListComp elt [⟨target, iter, ifs, 0⟩] scope pos) scope env (firstIterPos [⟨target, iter, ifs, 0⟩] pos) (newList []) false (pure x) (some (assign (.Name y py) env))) (fun _ s' => Q .next s') E s₁) E s) :
    wpAny (model prog w) A (exec (.Assign [.Name y py] (.ListComp elt [⟨target, iter, ifs, 0⟩] scope pos) spos) env) Q E s := by
  rw [exec_Assign_Name_used _ _ _ _ hsw]
  refine wpAny_bind (wpAny_standAt (wpAny_bind ?_))
  show wpAny _ A (do let _ ← comprehension (.ListComp elt [⟨target, iter, ifs, 0⟩] scope pos) scope env _ (newList []) false (eval iter env) (some (assign (.Name y py) env))) _ _ s
  rw [comprehension_first]
  refine wpAny_bind (wpAny_bind (wpAny_mono h (fun x s₁ h₁ => wpAny_mono h₁ (fun _ s' hq => wpAny_pure (wpAny_pure hq)) fun _ _ e => e) fun _ _ e => e))
end
/-! names within a comprehension -/
section
variable {M : Model} {E : Value → Shared → Prop} {scope : Scope} {cl : List (Str × Addr)} {C : Addr} {H : Heap} {m : Str → Option Value} {x : Str} {pos : Pos} {v : Value} {Q : Value → Shared → Prop}
theorem cLocal (F : Fr H C s.heap m) (hx : m x = some v) (h : Q v s)
    (hk : (compEnvC scope cl C env).scope.kind = .function := by rfl) (hl : (compEnvC scope cl C env).kindOf x = some .local := by rfl) (hd : (x == ("__debug__" : Str)) = false := by decide) :
    wpAny M A (eval (.Name x pos) (compEnvC scope cl C env)) Q E s := ldVarK F.ns hx h hk hl hd
theorem cCell {c : Addr} {o : Obj} (F : Fr H C s.heap m) (hc : cl.lookup x = some c) (ho : H.get? c = some o) (hv : o.data = .cell (some v)) (h : Q v s)
    (hk : (compEnvC scope cl C env).scope.kind = .function := by rfl) (hl : (compEnvC scope cl C env).kindOf x = some .cell := by rfl) (hd : (x == ("__debug__" : Str)) = false := by decide) :
    wpAny M A (eval (.Name x pos) (compEnvC scope cl C env)) Q E s :=
  wpAny_Name (wpAny_loadName_cell hk hl hc ⟨o, F.keep _ _ ho, hv⟩ h) hd
end
end
end Mine
end L1S

section E0S
open PySem PySem.W PySem.Calls PyProof.Rows Builtin
set_option maxRecDepth 100000
namespace Mine
noncomputable section
noncomputable abbrev MW (w : World) : Model := model PySem.Challenge.pw_pb0511_01 w

section
variable {prog : Program} {w : World} {A : Around} {s : Shared} {R : Result → Shared → Prop}
theorem codeC_call_function {a : Addr} {args : Args} {o : Obj} {fd : FuncData} {body : List Stmt} (hroom : A.depth < recursionLimit)
    (ho : s.heap.get? a = some o)
    (hd' : o.data = .func fd) (hco : fd.scope.isCoroutine = false) (hgen : fd.scope.isGenerator = false) (hbody : fd.body = .stmts body) (hcd : s.heap.CodeRec fd.code fd.qualname)
    (h : wpAny (model prog w) A.in1 (bindArgs fd args) (fun binds s₁ =>
      wpAny (model prog w) A.in1 (newFunctionEnv fd.scope fd.globals fd.closure binds (fd.qualname ++ ".<locals>.") (some a) fd.code none fd.builtins)
        (fun env s₂ => s₂.heap.NoLimit ∧ codeC (model prog w) A (.func body env) R s₂) (fun e s' => R (.error e) s') s₁) (fun e s' => R (.error e) s') s) :
    codeC (model prog w) A (.call (.ref a) args) R s := by
  refine codeC_of_tree (wpC_of ?_)
  show wpAny _ A.in1 (callAny (.ref a) args) _ _ s
  simp only [callAny]
  refine wpAny_bind (wpAny_load ho ?_)
  obtain ⟨c, oc, vs, tq, hc, hoc, hdc, hq⟩ := hcd
  simp only [hd', callFunction, hco, hgen, hbody, hc]
  rw [hc] at h
  refine wpAny_bind (m := field (.ref c) 1) (wpAny_field hoc hdc hq (wpAny_bind (wpAny_pure ?_)))
  exact wpAny_bind (wpAny_mono h (fun binds s₁ h₁ => wpAny_bind (wpAny_mono h₁ (fun env s₂ h₂ => wpAny_bind (wpAny_enterFrame h₂.1 hroom
    (wpAny_pure ⟨rfl, rfl, h₂.2⟩))) fun _ _ h' => h')) fun _ _ h' => h')
theorem codeC_func {body env}
    (h : wpC (model prog w) (A.deeper env) (execs body env) (fun f s' => R (.ok (.ret (match f with | .ret v => v | _ => .none))) s') (fun _ _ => False) s) :
    codeC (model prog w) A (.func body env) R s := by
  refine codeC_of_tree ?_
  show wpC _ (A.deeper env) (do point; match ← (execs body env).onRaise (leaving env) with | .ret v => ret v | _ => ret .none) _ _ s
  refine wpC_bind (wpC_of (wpAny_point ?_))
  refine wpC_bind (wpC_onRaise (wpC_mono h (fun f s' h' => ?_) fun _ _ h' => h'.elim))
  cases f <;> exact wpC_pure h'
end

section
variable {w : World} {mean : ExcName → Option Value} {mg mb : Str → Option Value} {s : Shared} {dp un : Nat} {fr : Option (List Env)}
  {name qual : Str} {params : Arguments} {body : List Stmt} {scope : Scope} {doc pm cdv ct oc : Value} {an od : Option Addr} {osl : Array (Option Value)} {f : Addr} {vs : List Value} {P : Value → Heap → Prop}

/-- entering a def of the text, over clean contexts -/
theorem enter_c (binds : List (Str × Value)) (B : Base w mean mg mb s.heap) (ho : (Head.hd.heap_39 w.params).lookup f = some ⟨oc, od, .func (fnOf name qual params body scope .none .none doc pm an cdv ct), osl⟩) (hcd : codeIn (Head.hd.heap_39 w.params) cdv qual = true) (hroom : dp < 1000)
    (hbind : bindArgs (fnOf name qual params body scope .none .none doc pm an cdv ct) ⟨vs, []⟩ = pure binds) (hloc : (binds.all fun x => decide (scope.names.lookup x.1 = some .local)) = true)
    (h : ∀ (fr' : Option (List Env)) (h₀ : Heap) (L : Addr) (h₁ : Heap) (tk : Nat), Base w mean mg mb h₀ → Fr h₀ L h₁ (fun y => binds.reverse.lookup y) → News h₀ L h₁ [] → (∀ b o, s.heap.get? b = some o → h₀.get? b = some o) →
      wpC (MW w) (arnd (dp + 1) (un + 3) fr') (execs body (envOf qual scope L f cdv)) (fun fl s' => Ends { s with heap := h₀ } P (match fl with | .ret v => v | _ => .none) s') never { s with heap := h₁, toks := tk })
    (hcell : (scope.names.all fun x => decide (x.2 ≠ .cell)) = true := by rfl) (hco : scope.isCoroutine = false := by rfl) (hgen : scope.isGenerator = false := by rfl) (hk : scope.kind = .function := by rfl) :
    wpC (MW w) (arnd dp un fr) (call (.ref f) vs) (Ends s P) never s := by
  refine wpC_call (codeC_call_function (fd := fnOf name qual params body scope .none .none doc pm an cdv ct) (body := body) hroom (B.X _ _ ho) rfl hco hgen rfl (codeRec_of B.X hcd) ?_)
  rw [hbind]
  refine wpAny_pure (wpAny_newFunctionEnv (fun x hx => of_decide_eq_true (List.all_eq_true.mp hcell x hx)) (locs hloc) (fun h₁ hns hsb => ⟨Heap.NoLimit.fresh B.T.nolimit _ hsb, codeC_func ?_⟩) hk)
  have hk₁ : ∀ b o, s.heap.get? b = some o → h₁.get? b = some o := fun b o e => hsb.extBut b o (Nat.ne_of_lt (Heap.lt_size e)) (Heap.get?_push_of_some _ e)
  refine wpC_mono (h (fr.map (envOf qual scope s.heap.objs.size f cdv :: ·)) s.heap s.heap.objs.size h₁ _ B ⟨hns, hk₁, Nat.le_refl _⟩ News.nil (fun _ _ e => e)) (fun fl s' q => ?_) (fun _ _ x => x.elim)
  obtain ⟨h, tk, rfl, e, p⟩ := q
  cases fl <;> exact ⟨h, tk, rfl, e, p⟩

/-- entering a def that holds cells -/
theorem enterC (binds : List (Str × Value)) (B : Base w mean mg mb s.heap) (ho : (Head.hd.heap_39 w.params).lookup f = some ⟨oc, od, .func (fnOf name qual params body scope .none .none doc pm an cdv ct), osl⟩) (hcd : codeIn (Head.hd.heap_39 w.params) cdv qual = true) (hroom : dp < 1000)
    (hbind : bindArgs (fnOf name qual params body scope .none .none doc pm an cdv ct) ⟨vs, []⟩ = pure binds)
    (hkind : ∀ n, ∀ x ∈ binds, scope.names.lookup x.1 = some .local ∨ (scope.names.lookup x.1 = some .cell ∧ ((cellsFrom n scope.names []).lookup x.1).isSome = true))
    (hnd : ((cellsFrom 0 scope.names []).map (·.1)).Nodup)
    (h : ∀ (fr' : Option (List Env)) (h₀ : Heap) (L : Addr) (h₁ : Heap) (tk : Nat) (cells : Ledger), Base w mean mg mb h₀ → Fr h₀ L h₁ (bindL (envOfC qual scope L f cdv).kindOf binds fun _ => none) → News h₀ L h₁ cells →
      CellsAre (bindC (envOfC qual scope L f cdv).kindOf binds fun _ => none) (cellsFrom (L + 1) scope.names []) cells → (∀ b o, s.heap.get? b = some o → h₀.get? b = some o) →
      wpAny (MW w) (arnd (dp + 1) (un + 3) fr') (execs body (envOfC qual scope L f cdv)) (fun fl s' => Ends { s with heap := h₀ } P (match fl with | .ret v => v | _ => .none) s') never { s with heap := h₁, toks := tk })
    (hco : scope.isCoroutine = false := by rfl) (hgen : scope.isGenerator = false := by rfl) (hk : scope.kind = .function := by rfl) :
    wpAny (MW w) (arnd dp un fr) (call (.ref f) vs) (Ends s P) never s := by
  refine wpAny_call (codeAny_call_function (fd := fnOf name qual params body scope .none .none doc pm an cdv ct) (body := body) hroom (B.X _ _ ho) rfl hco hgen rfl (codeRec_of B.X hcd) ?_)
  rw [hbind]
  refine wpAny_pure (wpAny_newFunctionEnv_cells hk (hkind _) fun env' he s' x => ?_)
  subst he
  refine ⟨Heap.NoLimit.keeps B.T.nolimit x.toInCall.keep, codeAny_func ?_⟩
  obtain ⟨h₁, tk, rfl, _⟩ := x.done
  have hk₁ := x.toInCall.keep
  obtain ⟨cells, NC, Y⟩ := Cl.news (h₀ := s.heap) (Nat.le_refl _) fun n c hm => ⟨x.cell n c (lookup_of_mem_nodup (cellsFrom_names scope.names 0 (s.heap.objs.size + 1) [] [] rfl ▸ hnd) hm), x.above n c hm⟩
  refine wpAny_mono (h (fr.map (envOfC qual scope s.heap.objs.size f cdv :: ·)) s.heap s.heap.objs.size h₁ tk cells B ⟨x.toInCall.ns, hk₁, Nat.le_refl _⟩ NC Y (fun _ _ e => e)) (fun fl s' q => ?_) (fun _ _ x => x.elim)
  obtain ⟨h, tk, rfl, e, p⟩ := q
  cases fl <;> exact ⟨h, tk, rfl, e, p⟩

/-- entering a def that holds cells, over clean contexts -/
theorem enterC_c (binds : List (Str × Value)) (B : Base w mean mg mb s.heap) (ho : (Head.hd.heap_39 w.params).lookup f = some ⟨oc, od, .func (fnOf name qual params body scope .none .none doc pm an cdv ct), osl⟩) (hcd : codeIn (Head.hd.heap_39 w.params) cdv qual = true) (hroom : dp < 1000)
    (hbind : bindArgs (fnOf name qual params body scope .none .none doc pm an cdv ct) ⟨vs, []⟩ = pure binds)
    (hkind : ∀ n, ∀ x ∈ binds, scope.names.lookup x.1 = some .local ∨ (scope.names.lookup x.1 = some .cell ∧ ((cellsFrom n scope.names []).lookup x.1).isSome = true))
    (hnd : ((cellsFrom 0 scope.names []).map (·.1)).Nodup)
    (h : ∀ (fr' : Option (List Env)) (h₀ : Heap) (L : Addr) (h₁ : Heap) (tk : Nat) (cells : Ledger), Base w mean mg mb h₀ → Fr h₀ L h₁ (bindL (envOfC qual scope L f cdv).kindOf binds fun _ => none) → News h₀ L h₁ cells →
      CellsAre (bindC (envOfC qual scope L f cdv).kindOf binds fun _ => none) (cellsFrom (L + 1) scope.names []) cells → (∀ b o, s.heap.get? b = some o → h₀.get? b = some o) →
      wpC (MW w) (arnd (dp + 1) (un + 3) fr') (execs body (envOfC qual scope L f cdv)) (fun fl s' => Ends { s with heap := h₀ } P (match fl with | .ret v => v | _ => .none) s') never { s with heap := h₁, toks := tk })
    (hco : scope.isCoroutine = false := by rfl) (hgen : scope.isGenerator = false := by rfl) (hk : scope.kind = .function := by rfl) :
    wpC (MW w) (arnd dp un fr) (call (.ref f) vs) (Ends s P) never s := by
  refine wpC_call (codeC_call_function (fd := fnOf name qual params body scope .none .none doc pm an cdv ct) (body := body) hroom (B.X _ _ ho) rfl hco hgen rfl (codeRec_of B.X hcd) ?_)
  rw [hbind]
  refine wpAny_pure (wpAny_newFunctionEnv_cells hk (hkind _) fun env' he s' x => ?_)
  subst he
  refine ⟨Heap.NoLimit.keeps B.T.nolimit x.toInCall.keep, codeC_func ?_⟩
  obtain ⟨h₁, tk, rfl, _⟩ := x.done
  have hk₁ := x.toInCall.keep
  obtain ⟨cells, NC, Y⟩ := Cl.news (h₀ := s.heap) (Nat.le_refl _) fun n c hm => ⟨x.cell n c (lookup_of_mem_nodup (cellsFrom_names scope.names 0 (s.heap.objs.size + 1) [] [] rfl ▸ hnd) hm), x.above n c hm⟩
  refine wpC_mono (h (fr.map (envOfC qual scope s.heap.objs.size f cdv :: ·)) s.heap s.heap.objs.size h₁ tk cells B ⟨x.toInCall.ns, hk₁, Nat.le_refl _⟩ NC Y (fun _ _ e => e)) (fun fl s' q => ?_) (fun _ _ x => x.elim)
  obtain ⟨h, tk, rfl, e, p⟩ := q
  cases fl <;> exact ⟨h, tk, rfl, e, p⟩

/-- a contract used within a walk -/
theorem use_call {A : Around} {Q : Value → Shared → Prop} {E : Value → Shared → Prop} {h₀ : Heap} {L : Addr} {m : Str → Option Value} {led : Ledger} (spec : wpAny (MW w) A (call (.ref f) vs) (Ends s P) never s) (F : Fr h₀ L s.heap m) (N : News h₀ L s.heap led)
    (h : ∀ v h' tk, Fr h₀ L h' m → News h₀ L h' led → Ext s.heap h' → P v h' → Q v { s with heap := h', toks := tk }) : wpAny (MW w) A (call (.ref f) vs) Q E s := by
  refine wpAny_mono spec (fun v s' q => ?_) fun _ _ x => x.elim
  obtain ⟨h', tk, rfl, e, p⟩ := q
  exact h v h' tk (F.keeps e) (fun x hx => ⟨e _ _ (N x hx).1, (N x hx).2⟩) e p
theorem use_call_c {A : Around} {Q : Value → Shared → Prop} {E : Value → Shared → Prop} {h₀ : Heap} {L : Addr} {m : Str → Option Value} {led : Ledger} (spec : wpC (MW w) A (call (.ref f) vs) (Ends s P) never s) (F : Fr h₀ L s.heap m) (N : News h₀ L s.heap led)
    (h : ∀ v h' tk, Fr h₀ L h' m → News h₀ L h' led → Ext s.heap h' → P v h' → Q v { s with heap := h', toks := tk }) : wpC (MW w) A (call (.ref f) vs) Q E s := by
  refine wpC_mono spec (fun v s' q => ?_) fun _ _ x => x.elim
  obtain ⟨h', tk, rfl, e, p⟩ := q
  exact h v h' tk (F.keeps e) (fun x hx => ⟨e _ _ (N x hx).1, (N x hx).2⟩) e p
/-- a fresh object joins the ledger -/
theorem news_join {h₀ h : Heap} {L : Addr} {led : Ledger} {p : Addr} {o : Obj} {hs : Heap} {m : Str → Option Value} (F : Fr h₀ L hs m) (e : Ext hs h) (N : News h₀ L h led) (hg : h.get? p = some o) (hn : hs.get? p = none) : News h₀ L h ((p, o) :: led) := fun x hx => by
  rcases List.mem_cons.mp hx with rfl | hx
  · refine ⟨hg, fun q => ?_, ?_⟩
    · obtain ⟨oL, _, _, hoL, _⟩ := F.ns
      have q : p = L := q
      rw [q, hoL] at hn; exact nomatch hn
    · cases q : h₀.get? p with
      | none => rfl
      | some o => rw [F.keep _ _ q] at hn; exact nomatch hn
  · exact N x hx
end
end
end Mine
end E0S

section E1S
open PySem PySem.W PySem.Calls PyProof.Rows PyProof.Rows.LCg Builtin
set_option maxRecDepth 100000
namespace Mine
section
variable {prog : Program} {w : World} {A : Around} {E : Value → Shared → Prop} {s : Shared}

theorem isl_led {h₀ h : Heap} {L l : Addr} {led : Ledger} {o : Obj} {vs : List Value} {n : Nat} (N : News h₀ L h led) (hm : (l, o) ∈ led) (e : o = { cls := .type "list", data := .seq vs.toArray n }) : h.IsList l vs.toArray := by
  subst e; exact ⟨_, (N _ hm).1, rfl, _, rfl⟩
theorem isl_up {h₀ h : Heap} {L l : Addr} {m : Str → Option Value} {vs : List Value} (F : Fr h₀ L h m) (hl : h₀.IsList l vs.toArray) : h.IsList l vs.toArray := hl.at fun o e => F.keep _ o e

theorem item_last {value slice : Expr} {l : Addr} {vs : List Value} {u : Tok} {x : Value} {Q : Value → Shared → Prop} (hl : s.heap.IsList l vs.toArray)
    (hx : vs.getLast? = some x) (h : Q x s)
    (hs : subscripted slice false (.ref l) (.int (-1) u) = operate [.ref l, .int (-1) u] (getItem (.ref l) (.int (-1) u)) := by with_unfolding_all rfl) (hg : ∀ r, letTemporaryGo value (.ref l) r = pure () := by intro _; with_unfolding_all rfl) :
    wpAny (model prog w) A (subscriptTail value slice (.ref l) (.int (-1) u)) Q E s := by
  have hne : vs.length ≠ 0 := fun e => by rw [List.length_eq_zero_iff] at e; subst e; simp at hx
  refine subscriptTail_builtin hl.typeIs slot_list_getitem.lookup (wpAny_getItem_list_neg hl (by decide) (by simp only [List.size_toArray]; omega) (by decide) ?_ h) hs hg
  rw [List.getLast?_eq_getElem?] at hx
  simp only [List.size_toArray]
  rw [show (-1 + (vs.length : Int)).toNat = vs.length - 1 by omega]
  simpa using hx

theorem setItem_last {l : Addr} {vs : List Value} {n : Nat} {t : Tok} {v : Value} {Q : Unit → Shared → Prop} (ho : s.heap.get? l = some { cls := .type "list", data := .seq vs.toArray n })
    (hne : vs.length ≠ 0)
    (hQ : ∀ h' n', h'.get? l = some { cls := .type "list", data := .seq (vs.dropLast ++ [v]).toArray n' } → Heap.SameBut l s.heap h' → Q () { s with heap := h' }) :
    wpAny (model prog w) A (setItem (.ref l) (.int (-1) t) v) Q E s := by
  have hl : s.heap.IsList l vs.toArray := ⟨_, ho, rfl, _, rfl⟩
  unfold setItem
  try with_reducible refine wpAny_holding ?_
  first | refine wpAny_bind (wpAny_pure ?_) | skip
  refine wpAny_bind (wpAny_sequenceKey hl.typeIs (by decide) ?_)
  refine wpAny_bind (wpAny_callSpecial?_slot (name := Str.ofString "__setitem__") hl.typeIs slot_list_setitem
    (wpAny_call_entry slot_list_setitem hl.typeIs entry_list_setitem ?_ (args_list_setitem _ _ _)))
  show wpAny _ _ (Builtin.List.listSubscript? (.int (-1) t) >>= _) _ _ s
  refine wpAny_bind (wpAny_listSubscript_int (fitsIndex_neg (by decide) (by decide)) ?_)
  have hidx := seqIndex_neg (k := -1) (n := vs.toArray.size) (by decide) (by simp only [List.size_toArray]; omega)
  have hx' : vs.toArray[vs.length - 1]? = some (vs[vs.length - 1]'(by omega)) := by simp
  show wpAny _ _ ((Builtin.List.listItems (.ref l) >>= fun xs => pure ((seqIndex? (Int.negSucc 0) xs.size).bind fun i => xs[i]?.map (i, ·))) >>= _) _ _ s
  refine wpAny_bind (wpAny_bind ?_)
  show wpAny _ _ (seqItems? (.ref l) >>= _) _ _ s
  refine wpAny_bind (wpAny_seqItems ho rfl (wpAny_pure (wpAny_pure ?_)))
  rw [show (Int.negSucc 0) = -1 from rfl, hidx]
  rw [show (-1 + (vs.toArray.size : Int)).toNat = vs.length - 1 by simp only [List.size_toArray]; omega]
  simp only [Option.bind_some, hx', Option.map_some]
  show wpAny _ _ (setSeqItemAt l (vs.length - 1) v >>= _) _ _ s
  obtain ⟨n', hd'⟩ := Obj.data_mapSeq (o := { cls := .type "list", data := .seq vs.toArray n }) rfl (·.setIfInBounds (vs.length - 1) v)
  have hset : vs.toArray.setIfInBounds (vs.length - 1) v = (vs.dropLast ++ [v]).toArray := by
    rw [List.setIfInBounds_toArray]
    congr 1
    rcases List.eq_nil_or_concat vs with rfl | ⟨r, a, rfl⟩
    · simp at hne
    · simp
  have hob : ∃ n', Obj.mapSeq (·.setIfInBounds (vs.length - 1) v) ({ cls := .type "list", data := .seq vs.toArray n } : Obj) = { cls := .type "list", data := .seq (vs.dropLast ++ [v]).toArray n' } := by
    rw [← hset]; exact ⟨_, rfl⟩
  obtain ⟨n2, hob⟩ := hob
  have hfin := Heap.get?_update_self (Obj.mapSeq (·.setIfInBounds (vs.length - 1) v)) ho (by rw [hob]; rfl)
  rw [hob] at hfin
  refine wpAny_bind (wpAny_setSeqItemAt ho rfl ?_)
  first
    | exact wpAny_bind (wpAny_pure (wpAny_pure ⟨.none, rfl, wpAny_pure (hQ _ _ hfin (Heap.SameBut.update ..))⟩))
    | exact wpAny_pure ⟨.none, rfl, wpAny_pure (hQ _ _ hfin (Heap.SameBut.update ..))⟩

theorem pick_from (vs : List Value) : kms_pick vs (some 1) none = vs.drop 1 := by
  have e : kms_lo (some 1) vs.length = min 1 vs.length := by simp [kms_lo]
  unfold kms_pick
  rw [e]
  simp only [kms_hi]
  cases vs with
  | nil => rfl
  | cons v vs => simp
theorem pick_init (vs : List Value) : kms_pick vs none (some (-1)) = vs.dropLast := by
  have e : kms_hi (some (-1)) vs.length = vs.length - 1 := by simp [kms_hi]
  unfold kms_pick
  rw [e]
  simp only [kms_lo, List.drop_zero, Nat.sub_zero, List.dropLast_eq_take]
theorem pick_upto (vs : List Value) (k : Nat) : kms_pick vs none (some (k : Int)) = vs.take k := by
  have e : kms_hi (some (k : Int)) vs.length = min k vs.length := by simp [kms_hi]; omega
  unfold kms_pick
  rw [e]
  simp only [kms_lo, List.drop_zero, Nat.sub_zero]
  by_cases h : k ≤ vs.length
  · rw [Nat.min_eq_left h]
  · rw [Nat.min_eq_right (by omega), List.take_of_length_le (Nat.le_refl _), List.take_of_length_le (by omega)]
end
end Mine
end E1S

section E2S
open PySem PySem.W PySem.Calls PyProof.Rows PyProof.Rows.LCg Builtin
set_option maxRecDepth 100000
namespace Mine
theorem chopS_length (sub : Octs) : ∀ (l : Octs) (s : Nat) (cur : Octs), (chopS sub s cur l).length ≤ l.length + 1
  | [], s, cur => by unfold chopS; simp
  | c :: l, s, cur => by
    cases s with
    | succ s => have := chopS_length sub l s cur; simp only [chopS, List.length_cons]; omega
    | zero =>
      unfold chopS
      split
      · have := chopS_length sub l (sub.length - 1) []; simp only [List.length_cons]; omega
      · have := chopS_length sub l 0 (cur ++ [c]); simp only [List.length_cons]; omega
theorem chopS_part (sub : Octs) : ∀ (l : Octs) (s : Nat) (cur : Octs), ∀ x ∈ chopS sub s cur l, x.length ≤ cur.length + l.length
  | [], s, cur => by unfold chopS; simp
  | c :: l, s, cur => by
    intro x hx
    cases s with
    | succ s => have := chopS_part sub l s cur x (by simpa [chopS] using hx); simp only [List.length_cons]; omega
    | zero =>
      unfold chopS at hx
      split at hx
      · rcases List.mem_cons.mp hx with rfl | hx
        · omega
        · have := chopS_part sub l (sub.length - 1) [] x hx; simp only [List.length_cons, List.length_nil] at this ⊢; omega
      · have := chopS_part sub l 0 (cur ++ [c]) x hx; simp only [List.length_cons, List.length_append, List.length_nil] at this ⊢; omega
theorem BytesAre.last {vs bs} (h : BytesAre vs bs) (hb : bs ≠ []) : ∃ t, vs.getLast? = some (.bytes (bs.getLast hb).toArray t) := by
  induction h with
  | nil => exact absurd rfl hb
  | @cons b t vs bs h ih =>
    cases h with
    | nil => exact ⟨t, rfl⟩
    | @cons b' t' vs' bs' h' =>
      obtain ⟨u, e⟩ := ih (by simp)
      exact ⟨u, by rw [List.getLast?_cons_cons, e, List.getLast_cons_cons]⟩
/-- a fresh list of bytes -/
noncomputable def NewLines (hs h : Heap) (v : Value) (bs : List Octs) : Prop := ∃ p vs n, v = .ref p ∧ h.get? p = some { cls := .type "list", data := .seq vs.toArray n } ∧ BytesAre vs bs ∧ hs.get? p = none
theorem lawLines_drop (b : Octs) : lawLines b = dropEnd (chopS [10] 0 [] (normB b)) := by
  unfold lawLines dropEnd normB
  rw [repl_is b [13, 10] [10] (by decide), repl_is _ [13] [10] (by decide), split_is _ [10] (by decide)]
theorem BytesAre.init {vs bs} (h : BytesAre vs bs) : BytesAre vs.dropLast bs.dropLast := by
  rw [List.dropLast_eq_take, List.dropLast_eq_take, h.length]; exact h.take _
section
variable {prog : Program} {w : World} {A : Around} {E : Value → Shared → Prop} {s : Shared} {b c d : Octs} {t u v : Tok} {Q : Value → Shared → Prop}
theorem repl_rule (hb : b.length ≤ 1000000) (hn : c.isEmpty = false) (hd : d.length ≤ 1) (h : ∀ t' k, Q (.bytes (repS c d 0 b).toArray t') { s with toks := k }) :
    wpAny (model prog w) A (call (.builtin "bytes.replace") [.bytes b.toArray t, .bytes c.toArray u, .bytes d.toArray v]) Q E s := by
  have hc : 1 ≤ c.length := by cases c <;> simp_all
  have h2 := repS_length c d hd b 0
  have h1 := occS_length c b 0 0
  rw [← repl_is b c d hc] at h h2
  refine replace_call hn (repl_none b c d) ?_ (by omega) h
  rw [occ_is b c hc]
  have : (occS c 0 0 b).length * d.length ≤ (occS c 0 0 b).length * 1 := Nat.mul_le_mul_left _ hd
  omega
theorem split_rule {h₀ : Heap} {L : Addr} {m : Str → Option Value} {led : Ledger} (F : Fr h₀ L s.heap m) (N : News h₀ L s.heap led) (hb : b.length ≤ 1000000) (hn : c.isEmpty = false)
    (h : ∀ vs D h' k, BytesAre vs (chopS c 0 [] b) → Fr h₀ L h' m → News h₀ L h' ((D, { cls := .type "list", data := .seq vs.toArray }) :: led) → (∀ p ∈ led, p.1 < D) → Q (.ref D) { s with heap := h', toks := k }) :
    wpAny (model prog w) A (call (.builtin "bytes.split") [.bytes b.toArray t, .bytes c.toArray u]) Q E s := by
  have hc : 1 ≤ c.length := by cases c <;> simp_all
  have e := split_is b c hc
  have h1 := chopS_length c b 0 []
  refine split_call hn (by omega) (by rw [e]; omega) (fun x hx => ?_) fun vs k hvs => ?_
  · rw [e] at hx
    have := chopS_part c b 0 [] x hx
    simp only [List.length_nil] at this; omega
  · rw [e] at hvs
    exact h vs _ _ k hvs (F.push _) (News.push F N _) fun p hp => Heap.lt_size (N p hp).1
end
end Mine
end E2S

section E3S
open PySem PySem.W PySem.Calls PyProof.Rows PyProof.Rows.LCg Builtin
set_option maxRecDepth 100000
namespace Mine
section
variable {prog : Program} {w : World} {A : Around} {s : Shared} {env : Env}
noncomputable abbrev enumO (it : Addr) (i : Int) (v : Value) : Obj := { cls := .type "enumerate", dict := none, data := .fields #[.none, .bool false, .ref it, rawInt i, .none, v], slots := #[] }
noncomputable def EnumEnd (h₀ : Heap) (L : Addr) (s : Shared) (e it : Addr) (oe oi : Obj) (J : (Str → Option Value) → Ledger → Prop) (s₃ : Shared) : Prop :=
  ∃ h' tk' m' led', s₃ = { s with heap := h', toks := tk' } ∧ Fr h₀ L h' m' ∧ News h₀ L h' ((e, oe) :: (it, oi) :: led') ∧ (∀ p ∈ led', p.1 ≠ e ∧ p.1 ≠ it) ∧ J m' led'
noncomputable def EnumPost (h₀ : Heap) (L : Addr) (s : Shared) (e it : Addr) (oe oi : Obj) (J : (Str → Option Value) → Ledger → Prop) (Q : Flow → Shared → Prop) (f : Flow) (s₃ : Shared) : Prop :=
  match f with
  | .ret v => Q (.ret v) s₃
  | .brk => Q .next s₃
  | _ => HoldW (EnumEnd h₀ L s e it oe oi J s₃)

noncomputable abbrev EnumI (s : Shared) (h₀ : Heap) (L e it l : Addr) (n : Nat) (J : Nat → (Str → Option Value) → Ledger → Prop) (k : Nat) (s' : Shared) : Prop := ∃ h' tk m' led' i old oi, s' = { s with heap := h', toks := tk } ∧ IsEnum h' e it ((i : Nat) : Int) old ∧ h'.get? it = some oi ∧ h'.IsListIter it l i ∧ J i m' led' ∧ Fr h₀ L h' m' ∧ News h₀ L h' led' ∧ (∀ p ∈ led', p.1 ≠ e ∧ p.1 ≠ it) ∧ i ≤ n ∧
      k = n + 1 - i

theorem enum_loop {xi xv : Str} {pi pv pt : Pos} {x1} {body : List Stmt} {e it l : Addr} {vs : List Value} {m : Str → Option Value} {led : Ledger} {h₀ : Heap} {Q : Flow → Shared → Prop} (hh : A.handled = none)
    (hxi : env.kindOf xi = some .local) (hxv : env.kindOf xv = some .local)
    (hp : (env.scope.kind == .class || (env.scope.kind == .module && env.locals != env.globals)) = false) (hei : e ≠ it)
    (J : Nat → (Str → Option Value) → Ledger → Prop)
    (hl : ∀ i m led h, J i m led → Fr h₀ env.locals h m → News h₀ env.locals h led → h.IsList l vs.toArray ∧ l ≠ e ∧ l ≠ it)
    (he : IsEnum s.heap e it 0 .none) (hit : s.heap.IsListIter it l 0) (F : Fr h₀ env.locals s.heap m) (N : News h₀ env.locals s.heap led)
    (heN : e ≠ env.locals ∧ h₀.get? e = none) (hiN : it ≠ env.locals ∧ h₀.get? it = none) (off : ∀ p ∈ led, p.1 ≠ e ∧ p.1 ≠ it) (h0 : J 0 m led)
    (turn : ∀ i v m led h tk oe oi ti, vs[i]? = some v → J i m led → Fr h₀ env.locals h (fun y => if y = xv then some v else if y = xi then some (.int (i : Int) ti) else m y) → News h₀ env.locals h ((e, oe) :: (it, oi) :: led) → (∀ p ∈ led, p.1 ≠ e ∧ p.1 ≠ it) →
      wpAny (model prog w) A (execs body env) (EnumPost h₀ env.locals s e it oe oi (J (i + 1)) Q) never { s with heap := h, toks := tk })
    (done : ∀ m led h tk, J vs.length m led → Fr h₀ env.locals h m → News h₀ env.locals h led → Q .next { s with heap := h, toks := tk }) :
    codeAny (model prog w) A (.forLoop (.Tuple [.Name xi pi, .Name xv pv] x1 pt) (.ref e) body [] env) (fun r s' => match r with | .ok f => Q f s' | .error _ => False) s := by
  refine codeAny_forLoop_any
    (EnumI s h₀ env.locals e it l vs.length J) ?_ (vs.length + 1)
    ⟨s.heap, s.toks, m, led, 0, .none, _, rfl, he, hit.choose_spec.1, hit, h0, F, N, off, Nat.zero_le _, rfl⟩
  rintro k s' ⟨H, tk, m', led', i, old, oi, rfl, he', hoi, hit', hJ, F', N', off', hi, rfl⟩
  obtain ⟨hl', hle, hli⟩ := hl i m' led' H hJ F' N'
  cases hv : vs.toArray[i]? with
  | none =>
    have hsz : i = vs.length := Nat.le_antisymm hi (by simpa using hv)
    subst hsz
    refine noted_never (wpAny_pyNext_enum_end hh he' hit' hl' hv fun h₁ he₁ => wpAny_execs_nil ?_)
    have he₁ : Heap.ExtBut it H h₁ := he₁
    refine done m' led' h₁ tk hJ ⟨F'.ns.extBut he₁ (Ne.symm hiN.1), fun b o y => he₁ b o (fun q => by rw [q, hiN.2] at y; exact nomatch y) (F'.keep b o y), F'.above⟩ fun p hp => ⟨he₁ _ _ (off' p hp).2 (N' p hp).1, (N' p hp).2⟩
  | some v =>
    have hvl : vs[i]? = some v := by simpa using hv
    have hlt : i < vs.length := (List.getElem?_eq_some_iff.mp hvl).1
    have heH : e < H.objs.size := Heap.lt_size he'
    have hLH : env.locals < H.objs.size := F'.ns.lt
    have hiH : it < H.objs.size := Heap.lt_size hoi
    obtain ⟨ol, hol, _⟩ := id hl'
    have hlH : l < H.objs.size := Heap.lt_size hol
    refine noted_never (wpAny_pyNext_enum_item he' hit' hl' hv hei fun h₁ heo hit₁ ht₁ hz₁ hk₁ => ?_)
    refine noted_never (wpAny_letOwnedTupleGo_enum heo fun h₂ he₂ hs₂ => ?_)
    replace hs₂ : Heap.SameBut e h₁ h₂ := hs₂
    have ht₂ : h₂.IsTuple H.objs.size #[.int i tk, v] := ⟨_, (hs₂.2 _ (Nat.ne_of_gt heH)).trans ht₁, rfl, _, rfl⟩
    have hz₂ : h₂.objs.size = H.objs.size + 1 := hs₂.1.trans hz₁
    refine noted_never (wpAny_assign_Tuple hh ht₂ rfl rfl fun h₃ hx₃ => ?_)
    replace hx₃ : Heap.ExtBut h₂.objs.size h₂ h₃ := hx₃
    have old₃ : ∀ b o, b < H.objs.size → h₂.get? b = some o → h₃.get? b = some o := fun b o hb x => hx₃ b o (by rw [hz₂]; exact Nat.ne_of_lt (Nat.lt_succ_of_lt hb)) x
    have hn₃ : h₃.Ns env.locals m' := (F'.ns.at fun o x => hk₁ _ o (Ne.symm heN.1) (Ne.symm hiN.1) x).sameBut hs₂ (Ne.symm heN.1) |>.at fun o x => old₃ _ o hLH x
    show wpAny _ A (do holding [v] (assign (.Name xi pi) env (.int i tk)); do holding [] (assign (.Name xv pv) env v); pure ()) _ _ _
    refine wpAny_bind (wpAny_holding (wpAny_assign_Name (wpAny_storeName_local hxi hn₃ (fun h₄ hn₄ hs₄ => ?_) hp)))
    replace hs₄ : Heap.SameBut env.locals h₃ h₄ := hs₄
    refine wpAny_bind (wpAny_holding (wpAny_assign_Name (wpAny_storeName_local hxv hn₄ (fun h₅ hn₅ hs₅ => wpAny_pure ?_) hp)))
    replace hs₅ : Heap.SameBut env.locals h₄ h₅ := hs₅
    have up : ∀ b o, b ≠ env.locals → b < H.objs.size → h₂.get? b = some o → h₅.get? b = some o := fun b o hbL hb x => hs₅.extBut b o hbL (hs₄.extBut b o hbL (old₃ b o hb x))
    have up0 : ∀ b o, b ≠ env.locals → b ≠ e → b ≠ it → H.get? b = some o → h₅.get? b = some o := fun b o h1 h2 h3 x => up b o h1 (Heap.lt_size x) (hs₂.extBut b o h2 (hk₁ b o h2 h3 x))
    have F₅ : Fr h₀ env.locals h₅ (fun y => if y = xv then some v else if y = xi then some (.int (i : Int) tk) else m' y) := ⟨hn₅, fun b o y => up0 b o (fun q => by rw [q] at y; exact Nat.lt_irrefl _ (Nat.lt_of_lt_of_le (Heap.lt_size y) F'.above)) (fun q => by rw [q, heN.2] at y; exact nomatch y) (fun q => by rw [q, hiN.2] at y; exact nomatch y) (F'.keep b o y), F'.above⟩
    have he₅ : IsEnum h₅ e it ((i : Int) + 1) v := up e _ heN.1 heH he₂
    obtain ⟨oi₅, hoi₁, hci⟩ := id hit₁
    have hoi₅ : h₅.get? it = some oi₅ := up it _ hiN.1 hiH (hs₂.extBut _ _ (Ne.symm hei) hoi₁)
    have N₅ : News h₀ env.locals h₅ ((e, enumO it ((i : Int) + 1) v) :: (it, oi₅) :: led') := fun p hp => by
      rcases List.mem_cons.mp hp with rfl | hp
      · exact ⟨he₅, heN⟩
      · rcases List.mem_cons.mp hp with rfl | hp
        · exact ⟨hoi₅, hiN⟩
        · exact ⟨up0 _ _ (N' p hp).2.1 (off' p hp).1 (off' p hp).2 (N' p hp).1, (N' p hp).2⟩
    refine noted_never (wpAny_mono (turn i v m' led' h₅ _ (enumO it ((i : Int) + 1) v) oi₅ tk hvl hJ F₅ N₅ off') (fun f s₃ h₆ => ?_) fun _ _ x => x)
    have fin : EnumEnd h₀ env.locals s e it (enumO it ((i : Int) + 1) v) oi₅ (J (i + 1)) s₃ → ∃ q, q < vs.length + 1 - i ∧ EnumI s h₀ env.locals e it l vs.length J q s₃ := by
      rintro ⟨h'', tk'', m'', led'', rfl, F'', N'', off'', hJ''⟩
      have z1 := (N'' _ (.head _)).1
      have z2 := (N'' _ (.tail _ (.head _))).1
      refine ⟨vs.length + 1 - (i + 1), by omega, h'', tk'', m'', led'', i + 1, v, oi₅, rfl, ?_, z2, ⟨oi₅, z2, hci⟩, hJ'', F'', fun p hp => N'' p (.tail _ (.tail _ hp)), off'', hlt, rfl⟩
      have : ((i + 1 : Nat) : Int) = (i : Int) + 1 := by push_cast; rfl
      rw [this]; exact z1
    cases f with
    | ret v => exact h₆
    | brk => exact h₆
    | next => exact fin h₆
    | cont => exact fin h₆

/-- a for over enumerate(list) -/
theorem For_enum {xi xv : Str} {pi pv pt pos : Pos} {x1} {iter : Expr} {body : List Stmt} {l : Addr} {vs : List Value} {h₀ : Heap} {Q : Flow → Shared → Prop} (hh : A.handled = none)
    (hxi : env.kindOf xi = some .local) (hxv : env.kindOf xv = some .local)
    (hp : (env.scope.kind == .class || (env.scope.kind == .module && env.locals != env.globals)) = false)
    (J : Nat → (Str → Option Value) → Ledger → Prop)
    (hl : ∀ i m led h, J i m led → Fr h₀ env.locals h m → News h₀ env.locals h led → h.IsList l vs.toArray)
    (hiter : wpAny (model prog w) A (eval iter env) (fun x s₁ => ∃ e it h tk m led, x = .ref e ∧ s₁ = { s with heap := h, toks := tk } ∧ e ≠ it ∧ IsEnum h e it 0 .none ∧ h.IsListIter it l 0 ∧ l ≠ e ∧ l ≠ it ∧ Fr h₀ env.locals h m ∧ News h₀ env.locals h led ∧ (e ≠ env.locals ∧ h₀.get? e = none) ∧ (it ≠ env.locals ∧ h₀.get? it = none) ∧ (∀ p ∈ led, p.1 ≠ e ∧ p.1 ≠ it) ∧ J 0 m led) never s)
    (turn : ∀ i v m led h tk e it oe oi ti, vs[i]? = some v → J i m led → Fr h₀ env.locals h (fun y => if y = xv then some v else if y = xi then some (.int (i : Int) ti) else m y) → News h₀ env.locals h ((e, oe) :: (it, oi) :: led) → (∀ p ∈ led, p.1 ≠ e ∧ p.1 ≠ it) →
      wpAny (model prog w) A (execs body env) (EnumPost h₀ env.locals s e it oe oi (J (i + 1)) Q) never { s with heap := h, toks := tk })
    (done : ∀ m led h tk, J vs.length m led → Fr h₀ env.locals h m → News h₀ env.locals h led → Q .next { s with heap := h, toks := tk })
    (hs : ∀ x, foldedSetIterable iter env x = pure x := by intro _; rfl) :
    wpAny (model prog w) A (exec (.For (.Tuple [.Name xi pi, .Name xv pv] x1 pt) iter body [] pos) env) Q never s := by
  refine wpAny_For (wpAny_mono hiter (fun x s₁ h₁ => ?_) fun _ _ x => x) hs
  obtain ⟨e, it, h, tk, m, led, rfl, rfl, hei, he, hit, hle, hli, F, N, heN, hiN, off, hJ⟩ := h₁
  refine wpAny_pyIter_enum he (codeAny_mono (enum_loop (Q := Q) hh hxi hxv hp hei J (fun i m led h a b c => ⟨hl i m led h a b c, hle, hli⟩) he hit F N heN hiN off hJ (fun i v m led h tk oe oi ti a b c d f => turn i v m led h tk e it oe oi ti a b c d f) done) fun r s' hr => ?_)
  cases r with
  | ok f => exact hr
  | error e => exact hr.elim
end
/-! the groups of _law_told in the heap -/
noncomputable abbrev LO (vs : List Value) (n : Nat) : Obj := { cls := .type "list", data := .seq vs.toArray n }
inductive Groups : List Value → List (Octs × List Octs) → Ledger → Prop
  | nil : Groups [] [] []
  | snoc {vs gs gl} {p q : Addr} {kw : Octs} {t : Tok} {n₁ n₂ : Nat} {ws bs} : Groups vs gs gl → BytesAre ws bs → Groups (vs ++ [.ref p]) (gs ++ [(kw, bs)]) ((p, LO [.bytes kw.toArray t, .ref q] n₁) :: (q, LO ws n₂) :: gl)
theorem Groups.length {vs gs gl} (h : Groups vs gs gl) : vs.length = gs.length := by induction h <;> simp_all
section
variable {prog : Program} {w : World} {A : Around} {E : Value → Shared → Prop} {s : Shared}
theorem ne_nil_snoc {l m : Addr} {v : Value} {vs : List Value} {Q : Value → Shared → Prop} (hl : s.heap.IsList l (vs ++ [v]).toArray) (hm : s.heap.IsList m #[]) (hu : A.units < cLine) (h : Q (.bool true) s) :
    wpAny (model prog w) A (compareOp .NotEq (.ref l) (.ref m)) Q E s := ne_nil hl hm hu (by
  have : (!((vs ++ [v]).length == 0)) = true := by simp
  rw [this]; exact h)
theorem append_led {h₀ : Heap} {L D : Addr} {m : Str → Option Value} {led rest : Ledger} {vs : List Value} {n : Nat} {x : Value} {Q : Value → Shared → Prop} (F : Fr h₀ L s.heap m) (N : News h₀ L s.heap led)
    (hm : (D, LO vs n) ∈ led) (hsub : ∀ p ∈ rest, p ∈ led) (hap : ∀ p ∈ rest, p.1 ≠ D) (hsz : vs.length ≤ 16777216)
    (h : ∀ h', Fr h₀ L h' m → News h₀ L h' ((D, LO (vs ++ [x]) (n + 1)) :: rest) → Q .none { s with heap := h' }) :
    wpAny (model prog w) A (call (.builtin "list.append") [.ref D, x]) Q E s := by
  have z := N _ hm
  refine append_at (hsz := by rw [List.size_toArray, sizeLine_eq]; exact hsz) z.1 fun h' hs hD => ?_
  refine h h' (F.change hs z.2.1 z.2.2) fun p hp => ?_
  rcases List.mem_cons.mp hp with rfl | hp
  · refine ⟨?_, z.2⟩
    rw [hD]; simp [LO]
  · have y := N p (hsub p hp)
    exact ⟨hs.extBut _ _ (hap p hp) y.1, y.2⟩
end
/-- a fresh pair -/
noncomputable def NewPair (hs h : Heap) (v : Value) (r : Octs × Octs) : Prop := ∃ p t₁ t₂, v = .ref p ∧ h.get? p = some (tupO [.bytes r.1.toArray t₁, .bytes r.2.toArray t₂]) ∧ hs.get? p = none
theorem NewPair.pair {hs h v r} (x : NewPair hs h v r) : IsPair h v r := by obtain ⟨p, t₁, t₂, e, g, _⟩ := x; exact ⟨p, t₁, t₂, e, g⟩
theorem none_up {h h' : Heap} {p : Addr} (e : ∀ b o, h.get? b = some o → h'.get? b = some o) (q : h'.get? p = none) : h.get? p = none := by
  cases z : h.get? p with
  | none => rfl
  | some o => rw [e _ _ z] at q; exact nomatch q
theorem newPair_end {hs h : Heap} {p : Addr} {a c : Octs} {t₁ t₂ : Tok} {r : Octs × Octs} (hg : h.get? p = some (tupO [.bytes a.toArray t₁, .bytes c.toArray t₂])) (hn : hs.get? p = none) (ha : a = r.1) (hc : c = r.2) : NewPair hs h (.ref p) r := by
  subst ha hc; exact ⟨p, t₁, t₂, rfl, hg, hn⟩

theorem use_pair {w : World} {A : Around} {s : Shared} {f : Addr} {vs : List Value} {Q : Value → Shared → Prop} {E : Value → Shared → Prop} {h₀ : Heap} {L : Addr} {m : Str → Option Value} {led : Ledger} {r : Octs × Octs}
    (spec : wpAny (MW w) A (call (.ref f) vs) (Ends s fun v h => NewPair s.heap h v r) never s) (F : Fr h₀ L s.heap m) (N : News h₀ L s.heap led)
    (h : ∀ p h' tk t₁ t₂, Fr h₀ L h' m → News h₀ L h' ((p, tupO [.bytes r.1.toArray t₁, .bytes r.2.toArray t₂]) :: led) → (∀ q ∈ led, q.1 ≠ p) → Q (.ref p) { s with heap := h', toks := tk }) : wpAny (MW w) A (call (.ref f) vs) Q E s := by
  refine use_call spec F N fun v h' tk F' N' e P => ?_
  obtain ⟨p, t₁, t₂, rfl, hg, hn⟩ := P
  refine h p h' tk t₁ t₂ F' (news_join F e N' hg hn) fun q hq e' => ?_
  have := (N q hq).1
  rw [e', hn] at this; exact nomatch this
end Mine
end E3S

section E4S
open PySem PySem.W PySem.Calls PyProof.Rows PyProof.Rows.LCg Builtin
set_option maxRecDepth 100000
namespace Mine
theorem allLt_mem {d : Nat} (gl : Ledger) (h : AllLt d gl) : ∀ x ∈ gl, x.1 < d := by
  induction gl with
  | nil => intro x hx; exact nomatch hx
  | cons p r ih =>
    obtain ⟨h1, h2⟩ := h
    intro x hx
    cases hx with
    | head => exact h1
    | tail _ hx => exact ih h2 x hx
section
variable {prog : Program} {w : World} {A : Around} {E : Value → Shared → Prop} {s : Shared}
/-- a new group is put to the list -/
theorem append_group {h₀ : Heap} {L D p q e it : Addr} {oe oi : Obj} {kw : Octs} {t : Tok} {ws : List Value} {n₁ n₂ : Nat} {m : Str → Option Value} {led gl : Ledger} {vs : List Value} {n : Nat} {Q : Value → Shared → Prop} (F : Fr h₀ L s.heap m) (N : News h₀ L s.heap led)
    (hp : (p, LO [.bytes kw.toArray t, .ref q] n₁) ∈ led) (hq : (q, LO ws n₂) ∈ led) (hD : (D, LO vs n) ∈ led) (he : (e, oe) ∈ led) (hi : (it, oi) ∈ led)
    (hgl : ∀ x ∈ gl, x ∈ led) (d1 : e ≠ D) (d2 : it ≠ D) (d3 : p ≠ D) (d4 : q ≠ D) (d5 : ∀ x ∈ gl, x.1 ≠ D) (hsz : vs.length ≤ 16777216)
    (h : ∀ h', Fr h₀ L h' m → News h₀ L h' ((e, oe) :: (it, oi) :: (D, LO (vs ++ [.ref p]) (n + 1)) :: (p, LO [.bytes kw.toArray t, .ref q] n₁) :: (q, LO ws n₂) :: gl) → Q .none { s with heap := h' }) :
    wpAny (model prog w) A (call (.builtin "list.append") [.ref D, .ref p]) Q E s := by
  refine append_led (rest := (e, oe) :: (it, oi) :: (p, LO [.bytes kw.toArray t, .ref q] n₁) :: (q, LO ws n₂) :: gl) F N hD (fun x hx => ?_) (fun x hx => ?_) hsz fun h' F' N' => h h' F' fun x hx => N' x ?_
  · simp only [List.mem_cons] at hx
    rcases hx with rfl | rfl | rfl | rfl | hx
    · exact he
    · exact hi
    · exact hp
    · exact hq
    · exact hgl x hx
  · simp only [List.mem_cons] at hx
    rcases hx with rfl | rfl | rfl | rfl | hx
    · exact d1
    · exact d2
    · exact d3
    · exact d4
    · exact d5 x hx
  · simp only [List.mem_cons] at hx ⊢
    rcases hx with rfl | rfl | rfl | rfl | rfl | hx
    · exact .inr (.inl rfl)
    · exact .inr (.inr (.inl rfl))
    · exact .inl rfl
    · exact .inr (.inr (.inr (.inl rfl)))
    · exact .inr (.inr (.inr (.inr (.inl rfl))))
    · exact .inr (.inr (.inr (.inr (.inr hx))))

/-- one more value to the last group -/
theorem append_plus {h₀ : Heap} {L D p q e it : Addr} {oe oi oD op : Obj} {x : Value} {ws : List Value} {n₂ : Nat} {m : Str → Option Value} {led gl : Ledger} {Q : Value → Shared → Prop} (F : Fr h₀ L s.heap m) (N : News h₀ L s.heap led)
    (hq : (q, LO ws n₂) ∈ led) (hD : (D, oD) ∈ led) (hp : (p, op) ∈ led) (he : (e, oe) ∈ led) (hi : (it, oi) ∈ led)
    (hgl : ∀ x ∈ gl, x ∈ led) (off : ∀ x ∈ ((D, oD) :: (p, op) :: (q, LO ws n₂) :: gl : Ledger), x.1 ≠ e ∧ x.1 ≠ it) (nd : (((D, oD) :: (p, op) :: (q, LO ws n₂) :: gl : Ledger).map (·.1)).Nodup) (hsz : ws.length ≤ 16777216)
    (h : ∀ h', Fr h₀ L h' m → News h₀ L h' ((e, oe) :: (it, oi) :: (D, oD) :: (p, op) :: (q, LO (ws ++ [x]) (n₂ + 1)) :: gl) → Q .none { s with heap := h' }) :
    wpAny (model prog w) A (call (.builtin "list.append") [.ref q, x]) Q E s := by
  simp only [List.map_cons, List.nodup_cons, List.mem_cons, not_or, List.mem_map, not_exists, not_and] at nd
  obtain ⟨⟨d1, d2, _⟩, ⟨d3, _⟩, d4, _⟩ := nd
  have o1 := off (q, LO ws n₂) (.tail _ (.tail _ (.head _)))
  refine append_led (rest := (e, oe) :: (it, oi) :: (D, oD) :: (p, op) :: gl) F N hq (fun x hx => ?_) (fun x hx => ?_) hsz fun h' F' N' => h h' F' fun x hx => N' x ?_
  · simp only [List.mem_cons] at hx
    rcases hx with rfl | rfl | rfl | rfl | hx
    · exact he
    · exact hi
    · exact hD
    · exact hp
    · exact hgl x hx
  · simp only [List.mem_cons] at hx
    rcases hx with rfl | rfl | rfl | rfl | hx
    · exact Ne.symm o1.1
    · exact Ne.symm o1.2
    · exact d2
    · exact d3
    · exact fun e => d4 x hx e
  · simp only [List.mem_cons] at hx ⊢
    rcases hx with rfl | rfl | rfl | rfl | rfl | hx
    · exact .inr (.inl rfl)
    · exact .inr (.inr (.inl rfl))
    · exact .inr (.inr (.inr (.inl rfl)))
    · exact .inr (.inr (.inr (.inr (.inl rfl))))
    · exact .inl rfl
    · exact .inr (.inr (.inr (.inr (.inr hx))))
theorem enum_start {env : Env} {l : Addr} {items : Array Value} {h₀ : Heap} {m : Str → Option Value} {led : Ledger} {s0 : Shared} {J : (Str → Option Value) → Ledger → Prop} (hl : s.heap.IsList l items) (F : Fr h₀ env.locals s.heap m) (N : News h₀ env.locals s.heap led)
    (hs : ∀ h, ∃ tk, ({ s with heap := h } : Shared) = { s0 with heap := h, toks := tk }) (hJ : J m led) :
    wpAny (model prog w) A (call (.type "enumerate") [.ref l]) (fun x s₁ => ∃ e it h tk m led, x = .ref e ∧ s₁ = { s0 with heap := h, toks := tk } ∧ e ≠ it ∧ IsEnum h e it 0 .none ∧ h.IsListIter it l 0 ∧ l ≠ e ∧ l ≠ it ∧ Fr h₀ env.locals h m ∧ News h₀ env.locals h led ∧ (e ≠ env.locals ∧ h₀.get? e = none) ∧ (it ≠ env.locals ∧ h₀.get? it = none) ∧ (∀ p ∈ led, p.1 ≠ e ∧ p.1 ≠ it) ∧ J m led) never s := by
  refine call_enumerate_list hl fun h' he hit hz up => ?_
  obtain ⟨tk, e⟩ := hs h'
  obtain ⟨ol, hol, _⟩ := id hl
  have hlt := Heap.lt_size hol
  have hL := F.ns.lt
  have fresh : ∀ a, s.heap.objs.size ≤ a → h₀.get? a = none := fun a ha => by
    cases q : h₀.get? a with
    | none => rfl
    | some o => exact absurd (Heap.lt_size (F.keep _ _ q)) (Nat.not_lt.mpr ha)
  refine ⟨s.heap.objs.size + 1, s.heap.objs.size, h', tk, m, led, rfl, e, Nat.succ_ne_self _, he, hit, Nat.ne_of_lt (Nat.lt_succ_of_lt hlt), Nat.ne_of_lt hlt, F.keeps up, fun p hp => ⟨up _ _ (N p hp).1, (N p hp).2⟩, ⟨Ne.symm (Nat.ne_of_lt (Nat.lt_succ_of_lt hL)), fresh _ (Nat.le_succ _)⟩, ⟨Ne.symm (Nat.ne_of_lt hL), fresh _ (Nat.le_refl _)⟩, fun p hp => ?_, hJ⟩
  have := Heap.lt_size (N p hp).1
  exact ⟨Nat.ne_of_lt (Nat.lt_succ_of_lt this), Nat.ne_of_lt this⟩
end
theorem nodup_group {D p q : Addr} {o o' o1 o2 : Obj} {gl : Ledger} (nd : (((D, o) :: gl : Ledger).map (·.1)).Nodup) (h1 : D < p) (h2 : D < q) (h3 : q < p) (h4 : ∀ x ∈ gl, x.1 < p) (h5 : ∀ x ∈ gl, x.1 < q) : (((D, o') :: (p, o1) :: (q, o2) :: gl : Ledger).map (·.1)).Nodup := by
  simp only [List.map_cons, List.nodup_cons, List.mem_cons, not_or, List.mem_map, not_exists, not_and] at nd ⊢
  exact ⟨⟨Nat.ne_of_lt h1, Nat.ne_of_lt h2, nd.1⟩, ⟨Ne.symm (Nat.ne_of_lt h3), fun x hx => Nat.ne_of_lt (h4 x hx)⟩, fun x hx => Nat.ne_of_lt (h5 x hx), nd.2⟩
theorem toff_of {D p q : Addr} {o o1 o2 : Obj} {gl : Ledger} (nd : (((D, o) :: (p, o1) :: (q, o2) :: gl : Ledger).map (·.1)).Nodup) : ∀ x ∈ ((p, o1) :: (q, o2) :: gl : Ledger), x.1 ≠ D := fun x hx e => by
  rw [List.map_cons, List.nodup_cons] at nd
  exact nd.1 (List.mem_map.mpr ⟨x, hx, e⟩)
theorem nodup_same {D p q : Addr} {o o1 o2 o' o1' o2' : Obj} {gl : Ledger} (nd : (((D, o) :: (p, o1) :: (q, o2) :: gl : Ledger).map (·.1)).Nodup) : (((D, o') :: (p, o1') :: (q, o2') :: gl : Ledger).map (·.1)).Nodup := nd
theorem off_group {D p q e it : Addr} {o o' o1 o2 : Obj} {gl : Ledger} (off : ∀ x ∈ ((D, o) :: gl : Ledger), x.1 ≠ e ∧ x.1 ≠ it) (h1 : e < p) (h2 : it < p) (h3 : e < q) (h4 : it < q) : ∀ x ∈ ((D, o') :: (p, o1) :: (q, o2) :: gl : Ledger), x.1 ≠ e ∧ x.1 ≠ it := fun x hx => by
  simp only [List.mem_cons] at hx
  rcases hx with rfl | rfl | rfl | hx
  · exact off (D, o) (.head _)
  · exact ⟨Ne.symm (Nat.ne_of_lt h1), Ne.symm (Nat.ne_of_lt h2)⟩
  · exact ⟨Ne.symm (Nat.ne_of_lt h3), Ne.symm (Nat.ne_of_lt h4)⟩
  · exact off x (.tail _ hx)
theorem off_same {D p q e it : Addr} {o o' o1 o2 o1' o2' : Obj} {gl : Ledger} (off : ∀ x ∈ ((D, o) :: (p, o1) :: (q, o2) :: gl : Ledger), x.1 ≠ e ∧ x.1 ≠ it) : ∀ x ∈ ((D, o') :: (p, o1') :: (q, o2') :: gl : Ledger), x.1 ≠ e ∧ x.1 ≠ it := fun x hx => by
  simp only [List.mem_cons] at hx
  rcases hx with rfl | rfl | rfl | hx
  · exact off (D, o) (.head _)
  · exact off (p, o1) (.tail _ (.head _))
  · exact off (q, o2) (.tail _ (.tail _ (.head _)))
  · exact off x (.tail _ (.tail _ (.tail _ hx)))
theorem bang_of {b : Octs} {x : Bool} (h : ((List.toArray (cutL b none (some 2))).toList == #[37, 33].toList) = x) : (b.take 2 == [37, 33]) = x := by
  have e : cutL b none (some 2) = b.take 2 := cutL_hi b 2
  rw [e] at h; exact h
theorem plus_of {b : Octs} {x : Bool} (h : ((List.toArray (cutL b none (some 3))).toList == #[37, 37, 43].toList) = x) : (b.take 3 == [37, 37, 43]) = x := by
  have e : cutL b none (some 3) = b.take 3 := cutL_hi b 3
  rw [e] at h; exact h
theorem plus_ne {b : Octs} {x : Bool} (h : ((List.toArray (cutL b none (some 3))).toList != #[37, 37, 43].toList) = x) : (b.take 3 == [37, 37, 43]) = !x := by
  have e : cutL b none (some 3) = b.take 3 := cutL_hi b 3
  rw [e] at h
  rw [← h]; exact (Bool.not_not _).symm
theorem cmt_of {b : Octs} {x : Bool} (h : ((List.toArray (cutL b none (some 2))).toList == #[37, 37].toList) = x) : (b.take 2 == [37, 37]) = x := by
  have e : cutL b none (some 2) = b.take 2 := cutL_hi b 2
  rw [e] at h; exact h
/-! fresh pairs in a ledger -/
inductive PairsL : Ledger → List Value → List (Octs × Octs) → Prop
  | nil : PairsL [] [] []
  | snoc {tl us rs} {p : Addr} {a c : Octs} {t₁ t₂ : Tok} : PairsL tl us rs → PairsL ((p, tupO [.bytes a.toArray t₁, .bytes c.toArray t₂]) :: tl) (us ++ [.ref p]) (rs ++ [(a, c)])
theorem PairsL.length {tl us rs} (q : PairsL tl us rs) : us.length = rs.length := by induction q <;> simp_all
theorem PairsL.are {h₀ h : Heap} {L : Addr} {led tl : Ledger} {us rs} (q : PairsL tl us rs) (N : News h₀ L h led) (hs : ∀ x ∈ tl, x ∈ led) : PairsAre h us rs := by
  induction q with
  | nil => exact .nil
  | snoc _ ih => exact (ih fun x hx => hs x (.tail _ hx)).append (.one ⟨_, _, _, rfl, (N _ (hs _ (.head _))).1⟩)
theorem Groups.get {vs gs gl} (h : Groups vs gs gl) : ∀ {i : Nat} {v : Value}, vs[i]? = some v → ∃ p q kw t n₁ n₂ xs bs, v = .ref p ∧ gs[i]? = some (kw, bs) ∧ (p, LO [.bytes (List.toArray kw) t, .ref q] n₁) ∈ gl ∧ (q, LO xs n₂) ∈ gl ∧ BytesAre xs bs := by
  induction h with
  | nil => intro i v h; simp at h
  | @snoc vs gs gl p q kw t n₁ n₂ ws bs hG hw ih =>
    intro i v hv
    by_cases hi : i < vs.length
    · rw [List.getElem?_append_left hi] at hv
      obtain ⟨p', q', kw', t', a, b, xs, ys, e, f, g, k, z⟩ := ih hv
      exact ⟨p', q', kw', t', a, b, xs, ys, e, by rw [List.getElem?_append_left (by rw [← hG.length]; exact hi)]; exact f, .tail _ (.tail _ g), .tail _ (.tail _ k), z⟩
    · have hi2 : i = vs.length := by
        have := (List.getElem?_eq_some_iff.mp hv).1
        simp at this; omega
      subst hi2
      rw [List.getElem?_append_right (Nat.le_refl _), Nat.sub_self] at hv
      simp at hv
      subst hv
      exact ⟨p, q, kw, t, n₁, n₂, ws, bs, rfl, by rw [hG.length, List.getElem?_append_right (Nat.le_refl _), Nat.sub_self]; rfl, .head _, .tail _ (.head _), hw⟩
theorem add_rule {prog : Program} {w : World} {A : Around} {E : Value → Shared → Prop} {s : Shared} {b c : Octs} {t u : Tok} {Q : Value → Shared → Prop} (hsz : b.length + c.length ≤ 16777216) (h : ∀ t' k, Q (.bytes (b ++ c).toArray t') { s with toks := k }) : wpAny (model prog w) A (binaryOp .Add (.bytes b.toArray t) (.bytes c.toArray u)) Q E s := by
  refine KBy.add_bytes (by simpa using hsz) fun t' k => ?_
  have e : b.toArray ++ c.toArray = (b ++ c).toArray := by simp
  rw [e]; exact h t' k
/-- a fresh list of pairs -/
noncomputable def NewPairs (hs h : Heap) (v : Value) (rs : List (Octs × Octs)) : Prop := ∃ p us n tl, v = .ref p ∧ h.get? p = some (LO us n) ∧ PairsL tl us rs ∧ hs.get? p = none ∧ ∀ x ∈ tl, h.get? x.1 = some x.2 ∧ hs.get? x.1 = none
theorem append_pair {prog : Program} {w : World} {A : Around} {E : Value → Shared → Prop} {s : Shared} {h₀ : Heap} {L D p it : Addr} {io op : Obj} {m : Str → Option Value} {led tl : Ledger} {us : List Value} {n : Nat} {Q : Value → Shared → Prop} (F : Fr h₀ L s.heap m) (N : News h₀ L s.heap led)
    (hp : (p, op) ∈ led) (hD : (D, LO us n) ∈ led) (hi : (it, io) ∈ led) (htl : ∀ x ∈ tl, x ∈ led) (d1 : it ≠ D) (d2 : p ≠ D) (d3 : ∀ x ∈ tl, x.1 ≠ D) (hsz : us.length ≤ 16777216)
    (h : ∀ h', Fr h₀ L h' m → News h₀ L h' ((it, io) :: (D, LO (us ++ [.ref p]) (n + 1)) :: (p, op) :: tl) → Q .none { s with heap := h' }) :
    wpAny (model prog w) A (call (.builtin "list.append") [.ref D, .ref p]) Q E s := by
  refine append_led (rest := (it, io) :: (p, op) :: tl) F N hD (fun x hx => ?_) (fun x hx => ?_) hsz fun h' F' N' => h h' F' fun x hx => N' x ?_
  · rcases List.mem_cons.mp hx with rfl | hx
    · exact hi
    · rcases List.mem_cons.mp hx with rfl | hx
      · exact hp
      · exact htl x hx
  · rcases List.mem_cons.mp hx with rfl | hx
    · exact d1
    · rcases List.mem_cons.mp hx with rfl | hx
      · exact d2
      · exact d3 x hx
  · rcases List.mem_cons.mp hx with rfl | hx
    · exact .tail _ (.head _)
    · rcases List.mem_cons.mp hx with rfl | hx
      · exact .head _
      · exact .tail _ (.tail _ hx)
end Mine
end E4S

section E5S
open PySem PySem.W PySem.Calls PyProof.Rows PyProof.Rows.LCg Builtin
set_option maxRecDepth 100000
set_option maxHeartbeats 1000000
namespace Mine
/-! rules for wpC -/
section
variable {prog : Program} {w : World} {A : Around} {E : Value → Shared → Prop} {s : Shared} {env : Env}
theorem wpC_never {α : Type} {M : Model} {t : Sem α} {Q : α → Shared → Prop} (h : wpC M A t Q never s) : wpC M A t Q E s := wpC_mono h (fun _ _ q => q) fun _ _ x => x.elim
theorem execsC_nil {Q : Flow → Shared → Prop} (h : Q .next s) : wpC (model prog w) A (execs [] env) Q E s := wpC_of (wpAny_execs_nil h)
theorem execsC_cons {st : Stmt} {rest : List Stmt} {Q : Flow → Shared → Prop}
    (h : wpC (model prog w) A (exec st env) (fun f s' => match f with | .next => wpC (model prog w) A (execs rest env) Q E s' | f => Q f s') E s) :
    wpC (model prog w) A (execs (st :: rest) env) Q E s := by
  rw [execs_cons]
  refine wpC_bind (wpC_mono h (fun f s' h' => ?_) fun _ _ h' => h')
  cases f with
  | next => exact h'
  | brk => exact wpC_pure h'
  | cont => exact wpC_pure h'
  | ret v => exact wpC_pure h'
theorem ifC {test : Expr} {body orelse : List Stmt} {pos : Pos} {Q : Flow → Shared → Prop}
    (h : wpC (model prog w) A (isTrue test env (eval test env)) (fun b s' => (b = true → wpC (model prog w) A (execs body env) Q E s') ∧ (b = false → wpC (model prog w) A (execs orelse env) Q E s')) E s) :
    wpC (model prog w) A (exec (.If test body orelse pos) env) Q E s := by
  rw [exec_If]
  refine wpC_bind (wpC_standAt (wpC_bind (wpC_mono h (fun b s' h' => ?_) fun _ _ h' => h')))
  cases b with
  | true => exact h'.1 rfl
  | false => exact h'.2 rfl
theorem returnC {e : Expr} {pos : Pos} {Q : Flow → Shared → Prop} (h : wpC (model prog w) A (eval e env) (fun v s' => Q (.ret v) s') E s) : wpC (model prog w) A (exec (.Return (some e) pos) env) Q E s := by
  rw [exec_Return_some]
  exact wpC_bind (wpC_standAt (wpC_bind (wpC_mono h (fun v s' h' => wpC_pure h') fun _ _ h' => h')))
theorem assignC {x : Str} {pos' pos : Pos} {value : Expr} {Q : Flow → Shared → Prop}
    (h : wpC (model prog w) A (eval value env) (fun v s₁ => wpAny (model prog w) A (storeName env x v) (fun _ => Q .next) E s₁) E s)
    (hs : swapsWith value (some (.Name x pos')) pos.line env = pure false := by rfl) :
    wpC (model prog w) A (exec (.Assign [.Name x pos'] value pos) env) Q E s := by
  rw [exec_Assign_Name _ _ _ _ _ hs]
  refine wpC_bind (wpC_standAt (wpC_bind (wpC_mono h (fun v s₁ h₁ => ?_) fun _ _ h' => h')))
  have hb : wpAny (model prog w) A (bindName env x v) (fun _ s' => wpC (model prog w) A (pure Flow.next) Q E s') E s₁ := fun Γ p hΓ => by
    rw [Sem.wp_bindName]
    exact Sem.wp_mono (post' := fun _ _ s' => wpC (model prog w) A (pure Flow.next) Q E s') _ Γ _ (fun _ _ s' h' => wpC_pure h') (fun _ _ _ h' => h') p s₁ (h₁ Γ p hΓ)
  exact wpC_bind (wpC_standAt (wpC_bind (wpC_of hb)))
theorem exprC {e : Expr} {pos : Pos} {Q : Flow → Shared → Prop} (h : wpC (model prog w) A (eval e env) (fun _ s' => Q .next s') E s)
    (hi : interactive env = false := by rfl) (hs : swapsWith e none pos.line env = pure false := by rfl) :
    wpC (model prog w) A (exec (.Expr e pos) env) Q E s := by
  rw [exec_Expr env e pos hi hs]
  exact wpC_bind (wpC_standAt (wpC_bind (wpC_mono h (fun v s' h' => wpC_of (wpAny_dropValue h')) fun _ _ x => x)))

theorem whileC {test : Expr} {body : List Stmt} {pos : Pos} {Q : Flow → Shared → Prop} (I : Nat → Shared → Prop)
    (turn : ∀ n s, I n s → wpC (model prog w) A (isTrue test env (eval test env)) (fun b s₂ =>
        (b = true → wpC (model prog w) A (execs body env) (fun f s₃ => match f with
            | .next | .cont => HoldW (∃ m, m < n ∧ I m s₃)
            | .brk => Q .next s₃
            | .ret v => Q (.ret v) s₃) never s₂) ∧
        (b = false → Q .next s₂)) never s)
    (n : Nat) (h : I n s) : wpC (model prog w) A (exec (.While test body [] pos) env) Q never s := by
  rw [exec_While]
  refine wpC_bind (wpC_standAt ?_)
  unfold runOwn
  refine wpC_onRaise (wpC_run rfl (codeC_mono (R := fun r s' => match r with | .ok f => Q f s' | .error _ => False) (codeC_loop rfl I (fun n s hI => ?_) rfl n h) fun r s' hr => ?_))
  · show wpC _ A ((whileTurn test body [] env).onRaise (fun x => do noteFrame x env; theTreesLotGoes x)) _ _ s
    refine wpC_onRaise (wpC_never ?_)
    simp only [whileTurn]
    refine wpC_bind (wpC_mono (turn n s hI) (fun b s₂ h₂ => ?_) fun _ _ h' => h')
    cases b with
    | true =>
      simp only [if_true]
      refine wpC_bind (wpC_mono (h₂.1 rfl) (fun f s₃ h₃ => ?_) fun _ _ h' => h')
      cases f with
      | next => exact wpC_pure ⟨rfl, h₃⟩
      | cont => exact wpC_pure ⟨rfl, h₃⟩
      | brk => exact wpC_pure h₃
      | ret v => exact wpC_pure h₃
    | false =>
      simp only [Bool.false_eq_true, if_false]
      exact wpC_bind (execsC_nil (wpC_pure (h₂.2 rfl)))
  · cases r with
    | ok f => exact hr
    | error e => exact hr.elim
end
end Mine
end E5S

section E6S
open PySem PySem.W PySem.Calls PyProof.Rows PyProof.Rows.LCg Builtin
set_option maxRecDepth 100000
set_option maxHeartbeats 1000000
namespace Mine
section
variable {prog : Program} {w : World} {A : Around} {E : Value → Shared → Prop} {s : Shared} {env : Env}
theorem splicedC_nil {Q : List Value → Shared → Prop} (h : Q [] s) : wpC (model prog w) A (spliced []) Q E s := wpC_of (Calls.spliced_nil h)
theorem splicedC_cons {x : Sem Value} {rest : List (Bool × Sem Value)} {Q : List Value → Shared → Prop}
    (h : wpC (model prog w) A x (fun v s₁ => wpC (model prog w) A (spliced rest) (fun vs s₂ => Q (v :: vs) s₂) E s₁) E s) : wpC (model prog w) A (spliced ((false, x) :: rest)) Q E s := by
  rw [spliced]
  refine wpC_bind (wpC_mono h (fun v s₁ h₁ => ?_) fun _ _ x => x)
  refine wpC_bind (wpC_pure ?_)
  exact wpC_bind (wpC_holding (wpC_mono h₁ (fun vs s₂ h₂ => wpC_pure h₂) fun _ _ x => x))
theorem evalArgsC {f : Value} {args : List (Bool × Sem Value)} {Q : Args → Shared → Prop} (hp : args.any (·.1) = false)
    (h : wpC (model prog w) A (spliced args) (fun vs s₁ => Q ⟨vs, []⟩ s₁) E s) : wpC (model prog w) A (evalArgs f true args []) Q E s := by
  cases args with
  | nil =>
    unfold evalArgs
    show wpC _ A (spliced [] >>= _) Q E s
    refine wpC_bind (wpC_mono h (fun vs s₁ h₁ => ?_) fun _ _ x => x)
    refine wpC_bind (wpC_pure ?_)
    refine wpC_holding ?_
    exact wpC_bind (wpC_pure (wpC_bind (wpC_pure (wpC_pure h₁))))
  | cons a r =>
    obtain ⟨b, x⟩ := a
    have hb : b = false := by simp at hp; exact hp.1
    subst hb
    unfold evalArgs
    show wpC _ A (spliced ((false, x) :: r) >>= _) Q E s
    refine wpC_bind (wpC_mono h (fun vs s₁ h₁ => ?_) fun _ _ x => x)
    refine wpC_holding ?_
    exact wpC_bind (wpC_pure (wpC_bind (wpC_pure (wpC_pure h₁))))
theorem callWithC_function {pos : Pos} {a : Addr} {o : Obj} {fd : FuncData} {args : List (Bool × Sem Value)} {Q : Value → Shared → Prop} (hp : args.any (·.1) = false)
    (h : wpC (model prog w) A (spliced args) (fun vs s₁ => (s₁.heap.get? a = some o ∧ o.data = .func fd) ∧ wpC (model prog w) A (call (.ref a) vs) Q E s₁) E s) :
    wpC (model prog w) A (callWith pos (.ref a) [] args []) Q E s := by
  unfold callWith
  refine wpC_bind (wpC_holding (evalArgsC hp (wpC_mono h (fun vs s₁ h₁ => wpC_bind (wpC_standAt ?_)) fun _ _ x => x)))
  have tail : ∀ {t : Sem Value}, wpC (model prog w) A t Q E s₁ → wpC (model prog w) A (t >>= fun r => holding [r] point >>= fun _ => pure r) Q E s₁ :=
    fun ht => wpC_bind (wpC_mono ht (fun r s₂ hr => wpC_bind (wpC_of (wpAny_holding (wpAny_point (wpC_pure hr))))) fun _ _ x => x)
  simp only [hp, List.any_nil, Bool.or_false, List.nil_append]
  refine wpC_bind (m := keeperOf (.ref a)) (wpC_of ?_)
  unfold keeperOf
  refine wpAny_bind (wpAny_load h₁.1.1 ?_)
  rw [h₁.1.2]
  refine wpAny_pure ?_
  show wpC _ A (if args.length + 2 * ([] : List (Option Str × Sem Value)).length > 30 then (call (.ref a) vs [] >>= fun r => holding [r] point >>= fun _ => pure r) else (callMarked plainCall (.ref a) vs [] >>= fun r => holding [r] point >>= fun _ => pure r)) Q E s₁
  by_cases hl : args.length + 2 * ([] : List (Option Str × Sem Value)).length > 30
  · rw [if_pos hl]; exact tail h₁.2
  · rw [if_neg hl]; exact tail (by unfold callMarked; exact wpC_keep h₁.2)
theorem callWithC_machine {pos : Pos} {f : Value} {first : List Value} {args : List (Bool × Sem Value)} {Q : Value → Shared → Prop} (hp : args.any (·.1) = false) (hk : keeperOf f = pure .machine)
    (h : wpC (model prog w) A (spliced args) (fun vs s₁ => wpC (model prog w) A (call f (first ++ vs)) Q E s₁) E s) :
    wpC (model prog w) A (callWith pos f first args []) Q E s := by
  unfold callWith
  refine wpC_bind (wpC_holding (evalArgsC hp (wpC_mono h (fun vs s₁ h₁ => wpC_bind (wpC_standAt ?_)) fun _ _ x => x)))
  simp only [hp, List.any_nil, Bool.or_false]
  rw [hk]
  refine wpC_bind (wpC_pure ?_)
  exact wpC_bind (wpC_mono h₁ (fun r s₂ hr => wpC_bind (wpC_of (wpAny_holding (wpAny_point (wpC_pure hr))))) fun _ _ x => x)

theorem callNameC {id : Str} {p pos : Pos} {args : List Expr} {Q : Value → Shared → Prop}
    (h : wpAny (model prog w) A (eval (.Name id p) env) (fun f s₁ => wpC (model prog w) A (callWith pos f [] (backTo pos (starEach args env)) []) Q E s₁) E s) :
    wpC (model prog w) A (eval (.Call (.Name id p) args [] pos) env) Q E s := by
  rw [arm_eval_Call_Name']
  exact wpC_bind (wpC_of h)
theorem tupleC {elts : List Expr} {k : Nat} {pos : Pos} {Q : Value → Shared → Prop}
    (h : wpC (model prog w) A (spliced (backTo pos (starEach elts env))) (fun vs s₁ => wpAny (model prog w) A (newTuple vs) Q E s₁) E s) :
    wpC (model prog w) A (eval (.Tuple elts k pos) env) Q E s := by
  rw [arm_eval_Tuple]
  exact wpC_bind (wpC_standAt (wpC_bind (wpC_mono h (fun vs s₁ h₁ => wpC_of h₁) fun _ _ x => x)))
theorem assignTupC {elts k tpos value pos} {names : List Str} {Q : Flow → Shared → Prop}
    (h : wpC (model prog w) A (eval value env) (fun v s₁ => wpAny (model prog w) A (unpackItems v names.length none) (fun items s₂ =>
      wpAny (model prog w) A (assignInOrder (names.reverse.map fun n => bindName env n) items.reverse) (fun _ => Q .next) E s₂) E s₁) E s)
    (hs : swapsWithSole [.Tuple elts k tpos] value pos.line env = pure false := by rfl)
    (hw : swappedStores [.Tuple elts k tpos] value env = pure (some names) := by rfl) :
    wpC (model prog w) A (exec (.Assign [.Tuple elts k tpos] value pos) env) Q E s := by
  rw [exec_Assign]
  refine wpC_bind (wpC_standAt ?_)
  rw [hs]
  refine wpC_bind (wpC_pure ?_)
  rw [if_neg (by decide)]
  refine wpC_bind (wpC_mono h (fun v s₁ h₁ => wpC_of ?_) fun _ _ x => x)
  rw [hw]
  refine wpAny_bind (wpAny_pure ?_)
  show wpAny _ A (do rule "assign.swapped-stores"; let items ← unpackItems v names.length none; assignInOrder (names.reverse.map fun n => bindName env n) items.reverse; pure .next) Q E s₁
  exact wpAny_bind (wpAny_rule (wpAny_bind (wpAny_mono h₁ (fun items s₂ h₂ => wpAny_bind (wpAny_mono h₂ (fun _ _ x => wpAny_pure x) fun _ _ x => x)) fun _ _ x => x)))
/-- bytearray.append as a method call -/
theorem methodC_ba {o : Expr} {apos pos : Pos} {arg : Expr} {Q : Value → Shared → Prop}
    (hbase : attributeBase o "append" env (eval o env) = eval o env)
    (hfew : methodCallForm ([arg].length + ([] : List Keyword).length) (backTo pos (starEach [arg] env)) (backToKw pos (keywordEach [] env)) = true)
    (hline : (apos.endLine == pos.line) = true)
    (h : wpAny (model prog w) A (eval o env) (fun ov s₁ => HoldW (∃ a b, ov = .ref a ∧ s₁.heap.get? a = some (baO b) ∧
      wpC (model prog w) A (callWith pos (.builtin "bytearray.append") [ov] (backTo pos (starEach [arg] env)) []) Q E s₁)) E s) :
    wpC (model prog w) A (eval (.Call (.Attribute o "append" apos) [arg] [] pos) env) Q E s := by
  rw [arm_eval_Call, hbase]
  refine wpC_bind (wpC_of (wpAny_mono h (fun ov s₁ h₁ => ?_) fun _ _ e => e))
  obtain ⟨a, b, rfl, ho, hc⟩ := h₁
  refine wpC_bind (wpC_standAt ?_)
  have hpos : methodCallPos true o env apos pos = pure pos := by unfold methodCallPos; simp [hline]
  unfold methodCall
  rw [hfew]
  refine wpC_bind (wpC_of (wpAny_holding (method_ba ho ?_)))
  rw [hpos]
  exact wpC_bind (wpC_pure hc)
theorem ba_led {h₀ h : Heap} {L a : Addr} {led : Ledger} {b : Octs} (N : News h₀ L h led) (hm : (a, baO b) ∈ led) : h.get? a = some (baO b) := (N _ hm).1
theorem new_ba_led {h₀ : Heap} {L : Addr} {m : Str → Option Value} {led : Ledger} {Q : Value → Shared → Prop} (hg : A.guards = some []) (F : Fr h₀ L s.heap m) (N : News h₀ L s.heap led)
    (h : ∀ a h', Fr h₀ L h' m → News h₀ L h' ((a, baO []) :: led) → (∀ x ∈ led, x.1 < a) → Q (.ref a) { s with heap := h' }) : wpC (model prog w) A (call (.type "bytearray") []) Q E s :=
  newBytearray hg fun h2 e2 g2 _ => h _ h2 (F.keeps e2) (news_join F e2 (fun p hp => ⟨e2 _ _ (N p hp).1, (N p hp).2⟩) g2 (Heap.get?_none_of_le (Nat.le_refl _))) fun x hx => Heap.lt_size (N x hx).1
theorem append_ba_led {h₀ : Heap} {L a : Addr} {m : Str → Option Value} {led rest : Ledger} {b : Octs} {c : UInt8} {t : Tok} {Q : Value → Shared → Prop} (hg : A.guards = some []) (F : Fr h₀ L s.heap m) (N : News h₀ L s.heap led) (hm : (a, baO b) ∈ led)
    (hsub : ∀ x ∈ rest, x ∈ led) (hap : ∀ x ∈ rest, x.1 ≠ a) (hz : b.length + 1 ≤ 16777216)
    (h : ∀ h', Fr h₀ L h' m → News h₀ L h' ((a, baO (b ++ [c])) :: rest) → Q .none { s with heap := h' }) :
    wpC (model prog w) A (call (.builtin "bytearray.append") [.ref a, .int (c.toNat : Int) t]) Q E s := by
  have z := N _ hm
  refine append_ba hg z.1 (Int.natCast_nonneg _) (Int.ofNat_lt.mpr (UInt8.toNat_lt c)) hz fun h' hO hs => ?_
  rw [show ((c.toNat : Nat) : Int).toNat.toUInt8 = c by simp] at hO
  refine h h' (F.change hs z.2.1 z.2.2) fun p hp => ?_
  rcases List.mem_cons.mp hp with rfl | hp
  · exact ⟨hO, z.2⟩
  · have y := N p (hsub p hp)
    exact ⟨hs.extBut _ _ (hap p hp) y.1, y.2⟩
end
end Mine
end E6S

section E7S
open PySem PySem.W PySem.Calls PyProof.Rows PyProof.Rows.LCg Builtin
set_option maxRecDepth 100000
set_option maxHeartbeats 1000000
namespace Mine
section
variable {prog : Program} {w : World} {A : Around} {E : Value → Shared → Prop} {s : Shared} {env : Env}
theorem forC {target iter : Expr} {body orelse : List Stmt} {pos : Pos} {Q : Flow → Shared → Prop}
    (h : wpC (model prog w) A (eval iter env) (fun x s₁ => wpAny (model prog w) A (pyIter x) (fun it s₂ =>
      codeAny (model prog w) A (.forLoop target it body orelse env) (fun r s' => match r with | .ok f => Q f s' | .error e => cameBackBy (model prog w) A env E e s') s₂) E s₁) E s)
    (hs : ∀ x, foldedSetIterable iter env x = pure x := by intro _; rfl) :
    wpC (model prog w) A (exec (.For target iter body orelse pos) env) Q E s := by
  rw [exec_For]
  exact wpC_bind (wpC_standAt (wpC_bind (wpC_mono h (fun x s₁ h₁ => wpC_of (wpAny_bind (wpAny_of_eq (hs x) (wpAny_bind (wpAny_standAt (wpAny_bind (wpAny_holding
    (wpAny_mono h₁ (fun it s₂ h₂ => wpAny_runOwn h₂) fun _ _ h' => h')))))))) fun _ _ h' => h')))
/-- a for over enumerate(list), its list made by a call over clean contexts -/
theorem For_enumC {xi xv : Str} {pi pv pt pos : Pos} {x1} {iter : Expr} {body : List Stmt} {h₀ : Heap} {Q : Flow → Shared → Prop} (hh : A.handled = none)
    (hxi : env.kindOf xi = some .local) (hxv : env.kindOf xv = some .local)
    (hp : (env.scope.kind == .class || (env.scope.kind == .module && env.locals != env.globals)) = false)
    (J : Addr → List Value → Nat → (Str → Option Value) → Ledger → Prop)
    (hl : ∀ l vs i m led h, J l vs i m led → Fr h₀ env.locals h m → News h₀ env.locals h led → h.IsList l vs.toArray)
    (hiter : wpC (model prog w) A (eval iter env) (fun x s₁ => ∃ l vs e it h tk m led, x = .ref e ∧ s₁ = { s with heap := h, toks := tk } ∧ e ≠ it ∧ IsEnum h e it 0 .none ∧ h.IsListIter it l 0 ∧ l ≠ e ∧ l ≠ it ∧ Fr h₀ env.locals h m ∧ News h₀ env.locals h led ∧ (e ≠ env.locals ∧ h₀.get? e = none) ∧ (it ≠ env.locals ∧ h₀.get? it = none) ∧ (∀ p ∈ led, p.1 ≠ e ∧ p.1 ≠ it) ∧ J l vs 0 m led) never s)
    (turn : ∀ l vs i v m led h tk e it oe oi ti, vs[i]? = some v → J l vs i m led → Fr h₀ env.locals h (fun y => if y = xv then some v else if y = xi then some (.int (i : Int) ti) else m y) → News h₀ env.locals h ((e, oe) :: (it, oi) :: led) → (∀ p ∈ led, p.1 ≠ e ∧ p.1 ≠ it) →
      wpAny (model prog w) A (execs body env) (EnumPost h₀ env.locals s e it oe oi (J l vs (i + 1)) Q) never { s with heap := h, toks := tk })
    (done : ∀ l vs m led h tk, J l vs vs.length m led → Fr h₀ env.locals h m → News h₀ env.locals h led → Q .next { s with heap := h, toks := tk })
    (hs : ∀ x, foldedSetIterable iter env x = pure x := by intro _; rfl) :
    wpC (model prog w) A (exec (.For (.Tuple [.Name xi pi, .Name xv pv] x1 pt) iter body [] pos) env) Q never s := by
  refine forC (wpC_mono hiter (fun x s₁ h₁ => ?_) fun _ _ x => x.elim) hs
  obtain ⟨l, vs, e, it, h, tk, m, led, rfl, rfl, hei, he, hit, hle, hli, F, N, heN, hiN, off, hJ⟩ := h₁
  refine wpAny_pyIter_enum he (codeAny_mono (enum_loop (Q := Q) hh hxi hxv hp hei (J l vs) (fun i m led h a b c => ⟨hl l vs i m led h a b c, hle, hli⟩) he hit F N heN hiN off hJ (fun i v m led h tk oe oi ti a b c d f => turn l vs i v m led h tk e it oe oi ti a b c d f) (done l vs)) fun r s' hr => ?_)
  cases r with
  | ok f => exact hr
  | error e => exact hr.elim
theorem evalCompC {elt target iter : Expr} {ifs : List Expr} {scope : Scope} {pos : Pos} {Q : Value → Shared → Prop}
    (h : wpC (model prog w) A (eval iter env) (fun x s₁ => wpAny (model prog w) A (comprehension (.ListComp elt [⟨target, iter, ifs, 0⟩] scope pos) scope env (firstIterPos [⟨target, iter, ifs, 0⟩] pos) (newList []) false (pure x) none) Q E s₁) E s) :
    wpC (model prog w) A (eval (.ListComp elt [⟨target, iter, ifs, 0⟩] scope pos) env) Q E s := by
  rw [eval_ListComp]
  show wpC _ _ (comprehension (.ListComp elt [⟨target, iter, ifs, 0⟩] scope pos) scope env _ (newList []) false (eval iter env) none) _ _ _
  rw [comprehension_first]
  exact wpC_bind (wpC_mono h (fun _ _ q => wpC_of q) fun _ _ x => x)
theorem assignCompC {elt target iter : Expr} {ifs : List Expr} {scope : Scope} {pos : Pos} {y : Str} {py spos : Pos} {Q : Flow → Shared → Prop} (hsw : swapsWith (.ListComp elt [⟨target, iter, ifs, 0⟩] scope pos) (some (.Name y py)) spos.line env = pure true)
    (h : wpC (model prog w) A (eval iter env) (fun x s₁ => wpAny (model prog w) A (comprehension (.ListComp elt [⟨target, iter, ifs, 0⟩] scope pos) scope env (firstIterPos [⟨target, iter, ifs, 0⟩] pos) (newList []) false (pure x) (some (assign (.Name y py) env))) (fun _ s' => Q .next s') E s₁) E s) :
    wpC (model prog w) A (exec (.Assign [.Name y py] (.ListComp elt [⟨target, iter, ifs, 0⟩] scope pos) spos) env) Q E s := by
  rw [exec_Assign_Name_used _ _ _ _ hsw]
  refine wpC_bind (wpC_standAt (wpC_bind ?_))
  show wpC _ A (do let _ ← comprehension (.ListComp elt [⟨target, iter, ifs, 0⟩] scope pos) scope env _ (newList []) false (eval iter env) (some (assign (.Name y py) env))) _ _ s
  rw [comprehension_first]
  refine wpC_bind (wpC_bind (wpC_mono h (fun x s₁ h₁ => wpC_of (wpAny_mono h₁ (fun _ s' hq => wpC_pure (wpC_pure hq)) fun _ _ e => e)) fun _ _ e => e))
theorem isTrueCmpC {l r : Expr} {op : CmpOp} {pos : Pos} {whole : Sem Value} {Q : Bool → Shared → Prop}
    (h : wpC (model prog w) A (eval l env) (fun a s₁ => wpAny (model prog w) A (eval r env) (fun b s₂ => wpAny (model prog w) A (compareOp op a b)
      (fun c s₃ => wpAny (model prog w) A (truthy c) Q E s₃) E s₂) E s₁) E s)
    (hm : behindInMarks op r = false := by with_unfolding_all rfl) : wpC (model prog w) A (isTrue (.Compare l [op] [r] pos) env whole) Q E s := by
  rw [isTrue_Compare1, markedBehindIn_of_false hm]
  refine wpC_bind (wpC_mono h (fun a s₁ h₁ => wpC_of (wpAny_bind (wpAny_holding (wpAny_mono h₁ (fun b s₂ h₂ => wpAny_bind (wpAny_standAt (wpAny_bind ?_))) fun _ _ x => x)))) fun _ _ x => x)
  intro Γ p hΓ
  rw [Sem.wp_operate]
  exact Sem.wp_mono _ Γ _ (fun c p₃ s₃ h₃ => wpAny_holding h₃) (fun _ _ _ h' => h') _ _ (h₂ Γ p hΓ)
theorem isTrueNotC {x : Expr} {pos : Pos} {whole : Sem Value} {Q : Bool → Shared → Prop} (h : wpC (model prog w) A (isTrue x env (eval x env)) (fun c s' => Q (!c) s') E s) :
    wpC (model prog w) A (isTrue (.UnaryOp .Not x pos) env whole) Q E s := by
  show wpC (model prog w) A (do return !(← isTrue x env (eval x env))) Q E s
  exact wpC_bind (wpC_mono h (fun c s' h' => wpC_pure h') fun _ _ x => x)
theorem isTrueOrC {x : Expr} {rest : List Expr} {pos : Pos} {whole : Sem Value} {Q : Bool → Shared → Prop}
    (h : wpC (model prog w) A (isTrue x env (eval x env)) (fun c s' => (c = true → Q true s') ∧ (c = false → wpC (model prog w) A (isTrue (.BoolOp .Or rest pos) env whole) Q E s')) E s) :
    wpC (model prog w) A (isTrue (.BoolOp .Or (x :: rest) pos) env whole) Q E s := by
  show wpC (model prog w) A (do
    match BoolOp.Or, ← isTrue x env (eval x env) with
    | .And, false => pure false
    | .Or, true => pure true
    | _, _ => allTrue .Or rest env) Q E s
  refine wpC_bind (wpC_mono h (fun c s' h' => ?_) fun _ _ x => x)
  cases c with
  | false => exact h'.2 rfl
  | true => exact wpC_pure (h'.1 rfl)
theorem isTruePlainC {e : Expr} {whole : Sem Value} {Q : Bool → Shared → Prop} (h : wpC (model prog w) A whole (fun v s₁ => wpAny (model prog w) A (truthy v) Q E s₁) E s)
    (he : isTrue e env whole = (do let v ← whole; standAt e.pos; holding [v] (truthy v)) := by rfl) : wpC (model prog w) A (isTrue e env whole) Q E s := by
  rw [he]
  exact wpC_bind (wpC_mono h (fun v s₁ h₁ => wpC_of (wpAny_bind (wpAny_standAt (wpAny_holding h₁)))) fun _ _ x => x)
theorem boolAndC {x y : Sem Value} {rest : List (Sem Value)} {pos : Pos} {Q : Value → Shared → Prop}
    (h : wpC (model prog w) A x (fun v s₁ => ∃ b, v = .bool b ∧ (b = true → wpC (model prog w) A (boolOp pos .And (y :: rest)) Q E s₁) ∧ (b = false → Q v s₁)) E s) :
    wpC (model prog w) A (boolOp pos .And (x :: y :: rest)) Q E s := by
  show wpC (model prog w) A (do
    let v ← x
    standAt pos
    let t ← holding [v] (truthy v)
    match BoolOp.And, t with
    | .And, false | .Or, true => pure v
    | _, _ => boolOp pos .And (y :: rest)) Q E s
  refine wpC_bind (wpC_mono h (fun v s₁ h₁ => wpC_bind (wpC_standAt ?_)) fun _ _ x => x)
  obtain ⟨b, rfl, h1, h2⟩ := h₁
  refine wpC_bind (wpC_of (wpAny_holding (wpAny_of_eq (a := b) rfl ?_)))
  cases b with
  | false => exact wpC_pure (h2 rfl)
  | true => exact h1 rfl
theorem evalAndC {xs : List Expr} {pos : Pos} {Q : Value → Shared → Prop} (h : wpC (model prog w) A (boolOp pos .And (evalEach xs env)) Q E s) : wpC (model prog w) A (eval (.BoolOp .And xs pos) env) Q E s := by
  rw [arm_eval_BoolOp]; exact h
end
end Mine
end E7S

section E8S
open PySem PySem.W PySem.Calls PyProof.Rows PyProof.Rows.LCg Builtin
set_option maxRecDepth 100000
set_option maxHeartbeats 1000000
namespace Mine
section
variable {prog : Program} {w : World} {A : Around} {E : Value → Shared → Prop} {s : Shared} {env : Env}
theorem callDefC {pos : Pos} {a : Addr} {o : Obj} {fd : FuncData} {args : List (Bool × Sem Value)} {Q : Value → Shared → Prop} (ho : s.heap.get? a = some o) (hd : o.data = .func fd) (hp : args.any (·.1) = false)
    (h : wpC (model prog w) A (spliced args) (fun vs s₁ => s₁.heap.get? a = some o ∧ wpC (model prog w) A (call (.ref a) vs) Q E s₁) E s) :
    wpC (model prog w) A (callWith pos (.ref a) [] args []) Q E s :=
  callWithC_function hp (wpC_mono h (fun _ _ q => ⟨⟨q.1, hd⟩, q.2⟩) fun _ _ x => x)
end
end Mine
end E8S

section E9S
open PySem PySem.W PySem.Calls PyProof.Rows PyProof.Rows.LCg Builtin
set_option maxRecDepth 100000
set_option maxHeartbeats 1000000
namespace Mine
section
variable {prog : Program} {w : World} {A : Around} {s : Shared} {env : Env}
theorem Fr.outside {h₀ h h' : Heap} {L : Addr} {m : Str → Option Value} {oL : Obj} (F : Fr h₀ L h m) (hL : h.get? L = some oL) (hL' : h'.get? L = some oL) (keep : ∀ b o, h₀.get? b = some o → h'.get? b = some o) : Fr h₀ L h' m :=
  ⟨F.ns.at fun o e => by rw [hL] at e; cases e; exact hL', keep, F.above⟩
theorem post_none2 {use : Option (Value → Sem Unit)} {Q : Value → Shared → Prop} {h₀ : Heap} {L : Addr} {m : Str → Option Value} {led : Ledger} {oL : Obj} {C D : Addr} {ys : List Value} {h : Heap} {tk : Nat} {m' : Str → Option Value} (F : Fr h₀ L s.heap m) (hoL : s.heap.get? L = some oL) (F' : Fr h₀ C h m') (N' : News h₀ C h ((D, lst ys) :: led)) (hm : (L, oL) ∈ led)
    (fin : ∀ h'', Fr h₀ L h'' m → (∀ p ∈ ((D, lst ys) :: led : Ledger), h''.get? p.1 = some p.2 ∧ h₀.get? p.1 = none) → Q (.ref D) { s with heap := h'', toks := tk }) :
    compPost (model prog w) A never none Q (.ref D) C (.ok .next) { s with heap := h, toks := tk } :=
  ⟨m', F'.ns, fun h'' hs'' => fin h'' (Fr.outside F hoL (hs''.extBut _ _ (N' _ (.tail _ hm)).2.1 (N' _ (.tail _ hm)).1) fun b o e => hs''.extBut _ _ (fun q => by
      rw [q] at e
      exact Nat.lt_irrefl _ (Nat.lt_of_lt_of_le (Heap.lt_size e) F'.above)) (F'.keep b o e)) fun p hp => ⟨hs''.extBut _ _ (N' p hp).2.1 (N' p hp).1, (N' p hp).2.2⟩⟩

theorem For_range {target iter : Expr} {body : List Stmt} {pos : Pos} {Q : Flow → Shared → Prop} {h₀ : Heap} {L : Addr} {K : Nat} (J : Nat → Nat → (Str → Option Value) → Ledger → Prop)
    (hh : A.handled = none)
    (hiter : wpAny (model prog w) A (eval iter env) (fun v s₁ => HoldW (∃ r n t u x, v = .ref r ∧ (∃ h tk, s₁ = { s with heap := h, toks := tk }) ∧ IsRange s₁.heap r 0 (n : Nat) 1 t u x ∧ n ≤ K ∧ ∃ m led, Fr h₀ L s₁.heap m ∧ News h₀ L s₁.heap led ∧ J n 0 m led)) never s)
    (turn : ∀ n i t m led h tk it io, i < n → n ≤ K → J n i m led → Fr h₀ L h m → News h₀ L h ((it, io) :: led) → (∀ p ∈ led, p.1 ≠ it) →
      wpAny (model prog w) A (assign target env (.int (i : Int) t)) (fun _ s₂ => wpAny (model prog w) A (execs body env) (TurnPost' h₀ L s it io (J n (i + 1)) Q) never s₂) never { s with heap := h, toks := tk })
    (done : ∀ n m led h tk, n ≤ K → J n n m led → Fr h₀ L h m → News h₀ L h led → Q .next { s with heap := h, toks := tk })
    (hK : K ≤ 16777216)
    (hs : ∀ x, foldedSetIterable iter env x = pure x := by intro _; rfl) (ht : ∀ it v, letOwnedTupleGo target it v = pure () := by intro _ _; rfl) :
    wpAny (model prog w) A (exec (.For target iter body [] pos) env) Q never s := by
  refine wpAny_For (wpAny_mono hiter (fun v s₁ h₁ => ?_) fun _ _ x => x.elim) hs
  obtain ⟨r, n, t, u, x, rfl, ⟨H, T, rfl⟩, hr, hnK, m, led, F, N, hJ⟩ := h₁
  have hsm : Builtin.Range.small 0 n 1 = true := small_one (by decide) (by decide) (by omega) (by omega)
  have hn : Builtin.Range.rangeSize 0 n 1 = ((n : Nat) : Int) := by rw [rangeSize_nat]; omega
  refine wpAny_pyIter_range hr hsm ?_
  refine codeAny_mono (walk_loop (J n) (range_walksN hh n) (fun i h st => ⟨_, st⟩) (fun i v s' Q _ q => by rw [ht]; exact wpAny_pure q)
    (fun i h h' io m led st e e' _ _ _ => by
      have st : h.get? _ = some _ := st
      rw [e] at st; cases st; exact e') (fresh_it F).1 (fresh_it F).2 (by show IsRangeIter _ _ _ _ _; rw [hn]; simpa using Heap.get?_push_size _ rfl) (F.push _) (news_up N _) (fun p hp => Nat.ne_of_lt (Heap.lt_size (N p hp).1)) hJ
    (fun i v m led h tk io hi hP hJ F N off => by
      obtain ⟨_, tv, rfl⟩ := hP
      exact turn n i tv m led h tk _ io hi hnK hJ F N off) fun m led h tk hJ F N => done n m led h tk hnK hJ F N) fun r s' hr => ?_
  cases r with
  | ok f => exact hr
  | error e => exact hr.elim
theorem wpAny_go_tupleiter {elts : List Expr} {x1} {pos : Pos} {I l T : Addr} {i : Nat} {E : Value → Shared → Prop} {Q : Unit → Shared → Prop} (hit : s.heap.IsTupleIter I l i) (hQ : Q () s) :
    wpAny (model prog w) A (letOwnedTupleGo (.Tuple elts x1 pos) (.ref I) (.ref T)) Q E s := by
  obtain ⟨o, ho, hc, hd⟩ := hit
  show wpAny _ _ (load I >>= _) _ _ _
  refine wpAny_bind (wpAny_load ho ?_)
  rw [hc, hd]
  show wpAny _ _ (if _ then _ else _) _ _ _
  rw [if_neg (by
    intro h
    rw [show (["enumerate", "zip", "dict_itemiterator", "dict_reverseitemiterator", "odict_iterator", "itertools.zip_longest", "itertools.pairwise"].contains "tuple_iterator") = false from by decide, Bool.false_and] at h
    cases h)]
  exact wpAny_pure hQ
theorem go_tuple {target : Expr} {I l : Addr} {i : Nat} {v : Value} {E : Value → Shared → Prop} {Q : Unit → Shared → Prop} (hit : s.heap.IsTupleIter I l i) (hQ : Q () s) : wpAny (model prog w) A (letOwnedTupleGo target (.ref I) v) Q E s := by
  cases target with
  | Tuple elts x pos =>
    cases v with
    | ref T => exact wpAny_go_tupleiter hit hQ
    | _ => exact wpAny_pure hQ
  | List elts pos =>
    cases v with
    | ref T => exact (wpAny_go_tupleiter hit hQ : wpAny (model prog w) A (letOwnedTupleGo (.Tuple [] 0 pos) (.ref I) (.ref T)) Q E s)
    | _ => exact wpAny_pure hQ
  | _ => exact wpAny_pure hQ
theorem For_tuple {target iter : Expr} {body : List Stmt} {pos : Pos} {Q : Flow → Shared → Prop} {h₀ : Heap} {L : Addr} (J : Addr → List Value → Nat → (Str → Option Value) → Ledger → Prop)
    (hh : A.handled = none)
    (hl : ∀ l vs i m led h, J l vs i m led → Fr h₀ L h m → News h₀ L h led → h.IsTuple l vs.toArray)
    (hiter : wpAny (model prog w) A (eval iter env) (fun v s₁ => HoldW (∃ l vs, v = .ref l ∧ (∃ h tk, s₁ = { s with heap := h, toks := tk }) ∧ ∃ m led, Fr h₀ L s₁.heap m ∧ News h₀ L s₁.heap led ∧ J l vs 0 m led)) never s)
    (turn : ∀ l vs i v m led h tk it io, vs[i]? = some v → J l vs i m led → Fr h₀ L h m → News h₀ L h ((it, io) :: led) → (∀ p ∈ led, p.1 ≠ it) →
      wpAny (model prog w) A (assign target env v) (fun _ s₂ => wpAny (model prog w) A (execs body env) (TurnPost' h₀ L s it io (J l vs (i + 1)) Q) never s₂) never { s with heap := h, toks := tk })
    (done : ∀ l vs m led h tk, J l vs vs.length m led → Fr h₀ L h m → News h₀ L h led → Q .next { s with heap := h, toks := tk })
    (hs : ∀ x, foldedSetIterable iter env x = pure x := by intro _; rfl) :
    wpAny (model prog w) A (exec (.For target iter body [] pos) env) Q never s := by
  refine wpAny_For (wpAny_mono hiter (fun v s₁ h₁ => ?_) fun _ _ x => x.elim) hs
  obtain ⟨l, vs, rfl, ⟨H, T, rfl⟩, m, led, F, N, hJ⟩ := h₁
  have hls := hl l vs 0 m led H hJ F N
  refine wpAny_pyIter_tuple hls ?_
  obtain ⟨ol, hol, _⟩ := id hls
  refine codeAny_mono (walk_loop (J l vs) (Walks.tuple hh H.objs.size l (Nat.ne_of_lt (Heap.lt_size hol)) vs.toArray) (fun i h st => ⟨_, st.1.choose_spec.1⟩) (fun i v s' Q st q => go_tuple st.1 q)
    (fun i h h' io m led st e e' hJ F N => ⟨st.1.at fun o x => by rw [e] at x; cases x; exact e', hl l vs i m led h' hJ F N⟩) (fresh_it F).1 (fresh_it F).2 ⟨⟨_, Heap.get?_push_size _ rfl, rfl, rfl⟩, hl l vs 0 m led _ hJ (F.push _) (news_up N _)⟩ (F.push _) (news_up N _) (fun p hp => Nat.ne_of_lt (Heap.lt_size (N p hp).1)) hJ
    (fun i v m led h tk io hi hP hJ F N off => turn l vs i v m led h tk _ io (by simpa using hP) hJ F N off) fun m led h tk hJ F N => done l vs m led h tk (by simpa using hJ) F N) fun r s' hr => ?_
  cases r with
  | ok f => exact hr
  | error e => exact hr.elim
end
end Mine
end E9S

section E10S
open PySem PySem.W PySem.Calls PyProof.Rows PyProof.Rows.LCg Builtin
set_option maxRecDepth 100000
set_option maxHeartbeats 1000000
namespace Mine
theorem len1 {us : List Value} {x : Value} {i : Nat} (h : us.length ≤ i) : (us ++ [x]).length ≤ i + 1 := by rw [List.length_append, List.length_singleton]; omega
/-- between a test and what follows it -/
noncomputable abbrev RMid (s : Shared) (h₀ : Heap) (L : Addr) (m : Str → Option Value) (led : Ledger) (c b : Bool) (s' : Shared) : Prop := ∃ h' tk', s' = { s with heap := h', toks := tk' } ∧ Fr h₀ L h' m ∧ News h₀ L h' led ∧ b = c
theorem if_mid {prog : Program} {w : World} {A : Around} {s : Shared} {env : Env} {test : Expr} {body orelse : List Stmt} {pos : Pos} {Q : Flow → Shared → Prop} (Mid : Bool → Shared → Prop) (h1 : wpAny (model prog w) A (isTrue test env (eval test env)) (fun b s' => HoldW (Mid b s')) never s)
    (h2 : ∀ s', Mid true s' → wpAny (model prog w) A (execs body env) Q never s') (h3 : ∀ s', Mid false s' → wpAny (model prog w) A (execs orelse env) Q never s') : wpAny (model prog w) A (execs [.If test body orelse pos] env) Q never s := by
  have fin : ∀ f s', Q f s' → (match f with | .next => wpAny (model prog w) A (execs [] env) Q never s' | f => Q f s') := fun f s' q => by
    cases f with
    | next => exact wpAny_execs_nil q
    | brk => exact q
    | cont => exact q
    | ret v => exact q
  refine wpAny_execs_cons (wpAny_If (wpAny_mono h1 (fun b s' q => ?_) fun _ _ x => x))
  cases b with
  | true => exact wpAny_mono (h2 s' q) fin fun _ _ x => x
  | false => exact wpAny_mono (h3 s' q) fin fun _ _ x => x
theorem c_off {i : Nat} {x : Bool} (h : (i : Int) ≠ 0) : false = (decide (i = 0) && x) := by simp; intro e; omega
theorem c_on {i : Nat} {x v : Bool} (h : (i : Int) = 0) (hx : x = v) : v = (decide (i = 0) && x) := by subst hx; simp; omega
theorem c_true {i : Nat} {x : Bool} (h : true = (decide (i = 0) && x)) : i = 0 ∧ x = true := by simpa using h.symm
theorem c_false {i : Nat} {x : Bool} (h : false = (decide (i = 0) && x)) : ¬ (i = 0 ∧ x = true) := by simpa using h.symm
theorem d_off {x y : Bool} (h : x = false) : false = (x && y) := by rw [h]; rfl
theorem d_on {x y v : Bool} (h : x = true) (hy : y = v) : v = (x && y) := by rw [h, hy]; rfl
theorem d_not {x y v : Bool} (h : x = true) (hy : y = !v) : v = (x && !y) := by rw [h, hy]; simp
theorem d_true {x : Bool} {us : List Value} (h : true = (x && !(us.length == 0))) : x = true ∧ us ≠ [] := by
  cases us <;> simp_all
theorem d_false {x : Bool} {us : List Value} {tl rs} {gs : List (Octs × List Octs)} (hl : rs.length = gs.length) (hp : PairsL tl us rs) (h : false = (x && !(us.length == 0))) : x = false ∨ gs = [] := by
  have e := hp.length
  cases x with
  | false => exact .inl rfl
  | true =>
    refine .inr (List.length_eq_zero_iff.mp ?_)
    have : us.length = 0 := by simpa using h.symm
    omega
theorem e_true {x y : Bool} (h : true = (x && !y)) : x = true ∧ y = false := by simpa using h.symm
theorem e_false {x y : Bool} (h : false = (x && !y)) : x = false ∨ y = true := by
  cases x with
  | false => exact .inl rfl
  | true => exact .inr (by simpa using h.symm)
theorem gl_off {D : Addr} {o : Obj} {gl : Ledger} (nd : (((D, o) :: gl : Ledger).map (·.1)).Nodup) : ∀ x ∈ gl, x.1 ≠ D := fun x hx e => by
  rw [List.map_cons, List.nodup_cons] at nd
  exact nd.1 (List.mem_map.mpr ⟨x, hx, e⟩)
theorem g_false {x : Bool} {ws : List Value} {gs gl} (hG : Groups ws gs gl) (h : false = (x && !(ws.length == 0))) : x = false ∨ gs = [] := by
  have e := hG.length
  cases x with
  | false => exact .inl rfl
  | true =>
    refine .inr (List.length_eq_zero_iff.mp ?_)
    have : ws.length = 0 := by simpa using h.symm
    omega
end Mine
end E10S

section WalkS
set_option compiler.extract_closed false
open PySem PySem.W PySem.Calls PyProof.Rows Builtin
set_option maxRecDepth 100000
set_option maxHeartbeats 3000000
namespace Mine
noncomputable section
/-! ## the walk's own lines -/
local macro_rules | `(tactic| tb_start) => `(tactic| first
  | omega
  | (refine Nat.le_trans (cutL_length _ _ _) ?_; tb_start)
  | (refine Nat.le_trans (stripL_length _ _) ?_; tb_start)
  | (simp only [List.length_append, List.length_cons, List.length_nil, List.length_drop, List.length_take]; omega))
local macro_rules | `(tactic| walk_at "getMethod bytes") => `(tactic| first
  | (with_reducible refine bm_strip ?_)
  | (with_reducible refine bm_starts ?_)
  | (with_reducible refine bm_replace ?_)
  | (with_reducible refine bm_split ?_))
local macro_rules | `(tactic| walk_at "call builtin:bytes.strip") => `(tactic| ((refine strip_call (by tb_start) ?_); intro _ _))
local macro_rules | `(tactic| walk_at "call builtin:bytes.startswith") => `(tactic| ((refine starts_call ?_)))
local macro_rules | `(tactic| walk_at "subscriptTail") => `(tactic| ((with_reducible show wpAny _ _ (subscriptTail _ _ (Value.bytes (List.toArray _) _) (Value.int _ _)) _ _ _); (refine KBy.item_N (Nat.le_trans (m := 16777216) (by tb_start) (by decide)) (by omega) (by omega) ?_)))
local macro_rules | `(tactic| walk_at "compareOp In int bytes") => `(tactic| ((refine in_bytes (by first | omega | exact Int.natCast_nonneg _) (by first | omega | exact Int.ofNat_lt.mpr (UInt8.toNat_lt _)) ?_)))
local macro_rules | `(tactic| walk_at "compareOp NotIn int bytes") => `(tactic| ((refine notIn_bytes (by first | omega | exact Int.natCast_nonneg _) (by first | omega | exact Int.ofNat_lt.mpr (UInt8.toNat_lt _)) ?_)))
local macro_rules | `(tactic| walk_at "call type:bytes") => `(tactic| ((with_reducible show wpAny _ _ (call (Value.type "bytes") [Value.bytes (List.toArray _) _]) _ _ _); (refine bytes_bytes ?_)))
local macro_rules | `(tactic| walk_at "call builtin:len") => `(tactic| ((with_reducible show wpAny _ _ (call (Value.builtin "len") [Value.bytes (List.toArray _) _]) _ _ _); (refine len_bytes (by (simp only [List.size_toArray]; exact Nat.le_trans (m := 16777216) (by tb_start) (by decide))) ?_); (simp only [List.size_toArray])))
local macro_rules | `(tactic| walk_at "subscriptTail") => `(tactic| ((with_reducible show wpAny _ _ (subscriptTail _ (Expr.Slice _ _ none _) (Value.bytes (List.toArray _) _) (Value.ref _)) _ _ _); (with_reducible rename Fr _ _ _ _ => F'); (with_reducible rename News _ _ _ _ => N'); (refine slice_bytes (s := ⟨_, _, _, _, _⟩) F' N' (by constructor) (by constructor) (by tb_start) ?_); clear F' N'; intro _ _ _ F' N'))
local macro_rules | `(tactic| walk_at "eval Name") => `(tactic| (k_here; name_kind "globalImplicit"; (with_reducible rename Fr _ _ _ _ => kF); k_dflt (refine' name_B kF ?k1 ?k2 ?k3 ?k4 ?k5 ?_; (case k1 => k_asm); (case k2 => k_asm); (case k3 => k_is); (case k4 => boot_by_name); (case k5 => decide))))
local macro_rules | `(tactic| walk_at "exec While BoolOp cons nil") => `(tactic| (refine hold_w ?_))
local macro_rules | `(tactic| walk_at "exec For Tuple Call cons nil") => `(tactic| (refine hold_w ?_))
local macro_rules | `(tactic| walk_at "exec For Tuple Name cons nil") => `(tactic| (refine hold_w ?_))
local macro_rules | `(tactic| walk_at "exec For Name Subscript cons nil") => `(tactic| (refine hold_w ?_))
local macro_rules | `(tactic| walk_at "eval ListComp") => `(tactic| (refine hold_w ?_))
local macro_rules | `(tactic| walk_at "exec Assign cons ListComp") => `(tactic| (refine hold_w ?_))
local macro_rules | `(tactic| walk_at "eval Name") => `(tactic| (k_here; (with_reducible show wpAny _ _ (eval (Expr.Name _ _) (compEnvC _ _ _ _)) _ _ _); (with_reducible rename Fr _ _ _ _ => kF); k_dflt (first
  | (refine cLocal kF (by rfl) ?_)
  | (refine cCell kF (by rfl) (by assumption) (by assumption) ?_))))
local macro_rules | `(tactic| walk_at "own mlen") => `(tactic| (first | assumption | omega | (rw [BytesAre.length (by assumption)]; first | assumption | omega)))
local macro_rules | `(tactic| walk_at "own mlist") => `(tactic| (first | assumption | (rename News _ _ _ _ => qN; exact isl_led qN (by k_mem) rfl) | (rename Fr _ _ _ _ => qF; exact isl_up qF (by assumption))))
local macro_rules | `(tactic| walk_at "own munits") => `(tactic| (first | omega | (show _ < (9900 : Nat); omega) | (show _ + 1 < (9900 : Nat); omega)))
local macro_rules | `(tactic| walk_at "compareOp Eq ref ref") => `(tactic| ((with_reducible rename News _ _ _ _ => kN); (with_reducible rename Fr _ _ _ _ => kF); k_dflt (first
  | (refine eq_nil_nil (by (walk_at "own mlist")) (by (walk_at "own mlist")) (by (walk_at "own munits")) ?_)
  | (refine eq_nil_cons (by (walk_at "own mlist")) (by (walk_at "own mlist")) (by (walk_at "own munits")) ?_))))
local macro_rules | `(tactic| walk_at "compareOp NotEq ref ref") => `(tactic| ((with_reducible rename News _ _ _ _ => kN); (with_reducible rename Fr _ _ _ _ => kF); k_dflt (first
  | (refine ne_nil (by (walk_at "own mlist")) (by (walk_at "own mlist")) (by (walk_at "own munits")) ?_))))
local macro_rules | `(tactic| walk_at "own mitem") => `(tactic| (((with_reducible show wpAny _ _ (subscriptTail _ _ (Value.ref _) (Value.int _ _)) _ _ _); (with_reducible rename News _ _ _ _ => kN); (with_reducible rename Fr _ _ _ _ => kF); k_dflt (first
  | ((with_reducible show wpAny _ _ (subscriptTail _ _ (Value.ref _) (Value.int (-1) _)) _ _ _); refine' item_last ?a ?b ?_; (case a => (walk_at "own mlist")); (case b => first | assumption | rfl))
  | (refine' item_listL ?a ?b ?c ?d ?_; (case a => (walk_at "own mlist")); (case b => first | decide | omega); (case c => first | decide | omega); (case d => first | rfl | assumption))))))
local macro_rules | `(tactic| walk_at "subscriptTail Name UnaryOp ref int") => `(tactic| (walk_at "own mitem"))
local macro_rules | `(tactic| walk_at "subscriptTail Name Constant ref int") => `(tactic| (walk_at "own mitem"))
local macro_rules | `(tactic| walk_at "subscriptTail") => `(tactic| (walk_at "own mitem"))
local macro_rules | `(tactic| walk_at "subscriptTail Name Slice ref ref") => `(tactic| ((with_reducible show wpAny _ _ (subscriptTail _ (PySem.Expr.Slice _ _ none _) (Value.ref _) (Value.ref _)) _ _ _); (with_reducible rename News _ _ _ _ => kN); (with_reducible rename Fr _ _ _ _ => kF); k_dflt (refine kms_slice_lit (s := ⟨_, _, _, _, _⟩) kF kN (by (walk_at "own mlist")) (by constructor) (by constructor) (by first | exact pick_from _ | exact pick_init _ | exact pick_upto _ _) ?_ (by with_unfolding_all rfl) (by intro _; with_unfolding_all rfl) (by (simp only [List.size_toArray]; rw [sizeLine_eq]; (walk_at "own mlen"))); clear kF kN; intro _ _ kF kN _)))
local macro_rules | `(tactic| tb_start) => `(tactic| (refine Nat.le_trans (repS_length _ _ (by decide) _ _) ?_; tb_start))
local macro_rules | `(tactic| walk_at "call builtin:bytes.replace") => `(tactic| ((refine repl_rule (by tb_start) (by decide) (by decide) ?_); intro _ _))
local macro_rules | `(tactic| walk_at "call builtin:bytes.split") => `(tactic| ((with_reducible rename Fr _ _ _ _ => kF); (with_reducible rename News _ _ _ _ => kN); (refine split_rule kF kN (by tb_start) (by decide) ?_); clear kF kN; intro _ _ _ _ _ _ _ _))
local macro_rules | `(tactic| walk_at "binaryOp Add ref ref") => `(tactic| ((with_reducible show wpAny _ _ (binaryOp Operator.Add (Value.ref _) (Value.ref _)) _ _ _); (with_reducible rename News _ _ _ _ => kN); (with_reducible rename Fr _ _ _ _ => kF); k_dflt (refine' kmk_add_lit kF kN ?a ?b rfl ?_ ?z; (case a => (walk_at "own mlist")); (case b => (walk_at "own mlist")); (case z => (rw [sizeLine_eq]; simp; omega)); clear kF kN; intro _ _ kF kN _)))
local macro_rules | `(tactic| walk_at "call builtin:list.append") => `(tactic| ((with_reducible show wpAny _ _ (call (Value.builtin "list.append") [Value.ref _, _]) _ _ _); refine hold_w ?_))
local macro_rules | `(tactic| walk_at "own mbase") => `(tactic| ((rename Fr _ _ _ _ => qF); exact (Base.mk (by assumption) (by assumption)).keeps (Fr.keep qF)))
local macro_rules | `(tactic| walk_at "binaryOp Add bytes bytes") => `(tactic| ((with_reducible show wpAny _ _ (binaryOp Operator.Add (Value.bytes (List.toArray _) _) (Value.bytes (List.toArray _) _)) _ _ _); (refine add_rule (by ((try simp only [List.length_cons, List.length_nil, List.length_append]); omega) ) ?_); intro _ _))
local macro_rules | `(tactic| walk_at "call builtin:len") => `(tactic| ((with_reducible show wpAny _ _ (call (Value.builtin "len") [Value.ref _]) _ _ _); (with_reducible rename News _ _ _ _ => kN); (refine len_ba (ba_led kN (by k_mem)) (by omega) ?_); intro _ _))
local macro_rules | `(tactic| walk_at "call type:bytes") => `(tactic| ((with_reducible show wpAny _ _ (call (Value.type "bytes") [Value.ref _]) _ _ _); (with_reducible rename News _ _ _ _ => kN); (refine bytes_ba (ba_led kN (by k_mem)) (by omega) ?_); intro _ _))
theorem fill_it : PySem.Challenge.rw_pb0511_01 = PySem.Challenge.rw_pb0511_01 → Head.hd.heap_39 = Head.hd.heap_39 → True := by
  w_top off
  k_fill
  intros; trivial

/-! F1 -/
theorem post_gen {prog : Program} {w : World} {A : Around} {s : Shared} {α : Type} {t : Sem α} {Q0 : α → Shared → Prop} (k : ∀ Q : α → Shared → Prop, (∀ f s', Q0 f s' → Q f s') → wpAny (model prog w) A t Q never s) : wpAny (model prog w) A t Q0 never s := k Q0 fun _ _ q => q
theorem postC_gen {prog : Program} {w : World} {A : Around} {s : Shared} {α : Type} {t : Sem α} {Q0 : α → Shared → Prop} (k : ∀ Q : α → Shared → Prop, (∀ f s', Q0 f s' → Q f s') → wpC (model prog w) A t Q never s) : wpC (model prog w) A t Q0 never s := k Q0 fun _ _ q => q

/-- is_line_end -/
theorem ile_ok {w mean mg mb} {s : Shared} (B : Base w mean mg mb s.heap) {dp un : Nat} {fr} (hd : dp < 900) (n : Int) (t : Tok) :
    wpAny (MW w) (arnd dp un fr) (call (.ref 21) [.int n t]) (Ends s fun v _ => v = .bool (n == 10 || n == 13)) never s := by
  refine enter [("octet", .int n t)] B rfl rfl (by omega) rfl rfl fun fr' h₀ L h₁ tk ⟨X, T⟩ F N k => ?_
  k_steps
  all_goals
    exact ⟨_, _, rfl, F.keep, by simp_all⟩

/-- the sign's place: the keyword's end -/
noncomputable def isEnd (c : UInt8) : Bool := [58, 32, 9].contains c
noncomputable def placeOf (rest : Octs) : Nat := (rest.takeWhile fun c => !isEnd c).length
/-- a comment's parts -/
noncomputable def cutR (b : Octs) : Octs × Octs :=
  ((b.drop 2).take (placeOf (b.drop 2)), stripL [32, 9] (if ((b.drop 2).drop (placeOf (b.drop 2))).take 1 == [58] then (b.drop 2).drop (placeOf (b.drop 2) + 1) else (b.drop 2).drop (placeOf (b.drop 2))))
theorem placeOf_eq : ∀ {rest : Octs} {k : Nat}, k ≤ rest.length → (∀ c ∈ rest.take k, isEnd c = false) → (∀ h : k < rest.length, isEnd rest[k] = true) → placeOf rest = k
  | [], k, hk, _, _ => by simp at hk; subst hk; rfl
  | c :: r, 0, _, _, he => by
    have := he (by simp)
    unfold placeOf
    simp at this
    simp [this]
  | c :: r, k + 1, hk, ha, he => by
    have h1 := ha c (by simp)
    have ih := placeOf_eq (rest := r) (k := k) (by simpa using hk) (fun d hd => ha d (by simp [hd])) (fun h => he (Nat.succ_lt_succ h))
    unfold placeOf at ih ⊢
    rw [List.takeWhile_cons, if_pos (by simp [h1]), List.length_cons, ih]

theorem byte_back (c : UInt8) : ((c.toNat : Nat) : Int).toNat.toUInt8 = c := by simp

theorem cut_place {rest : Octs} {k : Nat} (hk : k ≤ rest.length) (hall : ∀ c ∈ rest.take k, isEnd c = false)
    (he : ¬ ((k : Int) < (rest.length : Int)) ∨ [58, 32, 9].contains (((rest.getD (k : Int).toNat 0).toNat : Int)).toNat.toUInt8 = true) : placeOf rest = k := by
  refine placeOf_eq hk hall fun h => ?_
  rcases he with he | he
  · omega
  · rw [byte_back, Int.toNat_natCast] at he
    rw [← List.getElem_eq_getD (h := h)] at he
    exact he
theorem cut_colon {rest : Octs} {k : Nat} {c : Bool} (hc : ((cutL rest (some (k : Int)) (some ((k : Int) + 1))).toArray.toList == #[58].toList) = c) : (List.take 1 (List.drop k rest) == [58]) = c := by
  have := cutL_mid rest k (k + 1)
  rw [← hc]
  rw [show ((k : Int) + 1) = ((k + 1 : Nat) : Int) from rfl, this, Nat.add_sub_cancel_left]
theorem cut_more {rest : Octs} {k : Nat} (hk : k < rest.length) (hall : ∀ c ∈ rest.take k, isEnd c = false)
    (he : [58, 32, 9].contains (((rest.getD (k : Int).toNat 0).toNat : Int)).toNat.toUInt8 = false) : ∀ c ∈ rest.take (k + 1), isEnd c = false := by
  rw [byte_back, Int.toNat_natCast] at he
  rw [← List.getElem_eq_getD (h := hk)] at he
  intro c hc
  rw [List.take_succ_eq_append_getElem hk] at hc
  rcases List.mem_append.mp hc with hc | hc
  · exact hall c hc
  · simp at hc; subst hc; exact he
/-- dsc_cut -/
theorem cut_ok {w mean mg mb} {s : Shared} (B : Base w mean mg mb s.heap) {dp un : Nat} {fr} (hd : dp < 900) (b : Octs) (t : Tok) (hb : b.length ≤ 1000000) :
    wpAny (MW w) (arnd dp un fr) (call (.ref 35) [.bytes b.toArray t]) (Ends s fun v h => NewPair s.heap h v (cutR b)) never s := by
  refine enter [("line", .bytes b.toArray t)] B rfl rfl (by omega) rfl rfl fun fr' h₀ L h₁ tk ⟨X, T⟩ F N kk => ?_
  have hr : cutL b (some 2) none = b.drop 2 := cutL_lo b 2
  have hrl : (b.drop 2).length ≤ 1000000 := by rw [List.length_drop]; omega
  unfold cutR
  generalize b.drop 2 = rest at hr hrl ⊢
  refine post_gen fun QQ hQQ => ?_
  k_steps
  rename_i t₁ _ _ h₂ F₁ _
  rw [hr] at F₁
  refine hold_out (While_I (I := fun n s₂ => ∃ h tk ti k, s₂ = { s with heap := h, toks := tk } ∧ Fr h₀ L h (fun y => if y = Str.ofString "at" then some (Value.int ((k : Nat) : Int) ti) else if y = Str.ofString "rest" then some (Value.bytes (List.toArray rest) t₁) else List.lookup y [(Str.ofString "line", Value.bytes (List.toArray b) t)].reverse) ∧
    k ≤ rest.length ∧ n = rest.length - k ∧ ∀ c ∈ rest.take k, isEnd c = false) ?_ (rest.length - 0) ⟨h₂, _, _, 0, rfl, F₁, Nat.zero_le _, rfl, by simp⟩)
  rintro n s₂ ⟨h, tk, t₂, k, rfl, F₂, hk, rfl, hall⟩
  have N₂ : News h₀ L h [] := News.nil
  clear F₁
  k_steps
  all_goals (rename News _ _ _ _ => N')
  all_goals (rename Fr _ _ _ _ => F')
  all_goals try (
    have hp : placeOf rest = k := cut_place hk hall (by first | (left; assumption) | (right; assumption))
    rename (_ == _) = _ => hc
    have hc := cut_colon hc
    refine hQQ _ _ ?_
    rw [hp]
    refine ⟨_, _, rfl, F'.keep, newPair_end (N' _ (.head _)).1 (none_up kk (N' _ (.head _)).2.2) (cutL_hi _ _) ?_⟩
    first
      | (rw [if_pos hc]; exact congrArg _ (cutL_lo _ (k + 1)))
      | (rw [if_neg (by rw [hc]; exact Bool.false_ne_true)]; exact congrArg _ (cutL_lo _ k)))
  rename (_ : Int) < _ => hlt
  rename List.contains _ _ = false => he
  have hlt := Int.ofNat_lt.mp hlt
  exact ⟨rest.length - (k + 1), by omega, _, _, _, k + 1, rfl, fr_ext F' (fun y => by split <;> rfl), hlt, rfl, cut_more hlt hall he⟩

theorem assign_pair {prog : Program} {w : World} {A : Around} {E : Value → Shared → Prop} {s : Shared} {env : Env} {a b : Str} {pa pb tp : Pos} {kk : Nat} {H : Heap} {m : Str → Option Value} {led : Ledger} {v : Value} {r : Octs × Octs} {Q : Unit → Shared → Prop} (hv : IsPair s.heap v r) (hh : A.handled = none) (F : Fr H env.locals s.heap m) (N : News H env.locals s.heap led)
    (ha : env.kindOf a = some .local) (hb : env.kindOf b = some .local) (hp : (env.scope.kind == .class || (env.scope.kind == .module && env.locals != env.globals)) = false)
    (h : ∀ (h' : Heap) (tk : Nat) t₁ t₂, Fr H env.locals h' (fun z => if z = b then some (.bytes r.2.toArray t₂) else if z = a then some (.bytes r.1.toArray t₁) else m z) → News H env.locals h' led → Q () { s with heap := h', toks := tk }) :
    wpAny (model prog w) A (assign (.Tuple [.Name a pa, .Name b pb] kk tp) env v) Q E s := by
  obtain ⟨p, t₁, t₂, rfl, hg⟩ := hv
  refine kcp_assign hh (x := .bytes r.1.toArray t₁) (y := .bytes r.2.toArray t₂) ⟨_, hg, rfl, _, rfl⟩ ha hb hp F.ns fun h' tk hn up => ?_
  refine h h' tk t₁ t₂ ⟨hn, fun c o e => up c o (fun q => ?_) (F.keep c o e), F.above⟩ fun x hx => ⟨up _ _ (N x hx).2.1 (N x hx).1, (N x hx).2⟩
  rw [q] at e
  exact Nat.lt_irrefl _ (Nat.lt_of_lt_of_le (Heap.lt_size e) F.above)
theorem assign_one {prog : Program} {w : World} {A : Around} {E : Value → Shared → Prop} {s : Shared} {env : Env} {a : Str} {pa : Pos} {H : Heap} {m : Str → Option Value} {led : Ledger} {v : Value} {Q : Unit → Shared → Prop} (F : Fr H env.locals s.heap m) (N : News H env.locals s.heap led)
    (ha : env.kindOf a = some .local) (hp : (env.scope.kind == .class || (env.scope.kind == .module && env.locals != env.globals)) = false)
    (h : ∀ (h' : Heap) (tk : Nat), Fr H env.locals h' (fun z => if z = a then some v else m z) → News H env.locals h' led → Q () { s with heap := h', toks := tk }) :
    wpAny (model prog w) A (assign (.Name a pa) env v) Q E s :=
  wpAny_assign_Name (wpAny_storeName_local ha F.ns (fun h₂ hn₂ hs₂ => h h₂ _ (F.set hn₂ hs₂) (N.set hs₂)) hp)

local macro_rules | `(tactic| walk_at "call ref") => `(tactic| ((with_reducible show wpAny _ _ (call (Value.ref 21) [Value.int _ _]) _ _ _); (with_reducible rename News _ _ _ _ => kN); (with_reducible rename Fr _ _ _ _ => kF); (refine use_call (ile_ok (by (walk_at "own mbase")) (by omega) _ _) kF kN ?_); clear kF kN; intro _ _ _ _ _ _ kv; subst kv))

/-! F2 -/
noncomputable def atend : Octs := [40, 97, 116, 101, 110, 100, 41]
noncomputable def pickV : List Octs → Option Octs
  | [] => none
  | b :: bs => some (if b == atend then (b :: bs).getLast (by simp) else b)
noncomputable def ownOf (rs : List (Octs × Octs)) (kw : Octs) : List Octs := (rs.filter fun r => r.1 == kw).map (·.2)
noncomputable def IsOpt (v : Value) : Option Octs → Prop
  | none => v = .none
  | some b => ∃ t, v = .bytes b.toArray t
theorem pickV_t {b : Octs} {own : List Octs} {t : Tok} (he : (b == atend) = true) : IsOpt (.bytes (List.toArray ((b :: own).getLast (by simp))) t) (pickV (b :: own)) := by
  have e : pickV (b :: own) = some ((b :: own).getLast (by simp)) := by simp only [pickV]; rw [if_pos he]
  rw [e]; exact ⟨_, rfl⟩
theorem pickV_f {b : Octs} {own : List Octs} {t : Tok} (he : (b == atend) = false) : IsOpt (.bytes (List.toArray b) t) (pickV (b :: own)) := by
  have e : pickV (b :: own) = some b := by simp only [pickV]; rw [if_neg (by rw [he]; exact Bool.false_ne_true)]
  rw [e]; exact ⟨_, rfl⟩
theorem ownOf_take {rs : List (Octs × Octs)} {i : Nat} {r : Octs × Octs} (h : rs[i]? = some r) (kw : Octs) : ownOf (rs.take (i + 1)) kw = ownOf (rs.take i) kw ++ (if r.1 == kw then [r.2] else []) := by
  unfold ownOf
  rw [List.take_add_one, h, List.filter_append, List.map_append]
  congr 1
  by_cases e : (r.1 == kw) = true
  · simp [e]
  · simp [e]
theorem value_ok {w mean mg mb} {s : Shared} (B : Base w mean mg mb s.heap) {dp un : Nat} {fr} (hd : dp < 900) (hu : un < 5000) {l : Addr} {vs : List Value} {rs : List (Octs × Octs)} (hl : s.heap.IsList l vs.toArray) (hp : PairsAre s.heap vs rs) (hn : rs.length ≤ 1000000) (kw : Octs) (t : Tok) :
    wpAny (MW w) (arnd dp un fr) (call (.ref 47) [.ref l, .bytes kw.toArray t]) (Ends s fun v _ => IsOpt v (pickV (ownOf rs kw))) never s := by
  refine enterC [("rows", .ref l), ("keyword", .bytes kw.toArray t)] B rfl rfl (by omega) rfl (kindsX (by rfl)) (by decide) fun fr' h₀ L h₁ tk cells ⟨X, T⟩ F N Y kk => ?_
  obtain ⟨o, rfl, hd'⟩ := Y.one
  clear Y
  have hl1 : h₁.IsList l vs.toArray := hl.at (fun o e => F.keep _ o (kk _ o e))
  have hp1 : PairsAre h₁ vs rs := hp.keeps (fun b o e => F.keep b o (kk b o e))
  k_steps
  refine hold_out (assign_comp rfl ?_)
  k_steps
  refine core_list (J := fun i ys led => led = [] ∧ BytesAre ys (ownOf (rs.take i) kw)) (vs := vs) hl1 rfl rfl rfl rfl (by decide) (by rw [hp.length]; omega) ⟨rfl, .nil⟩ (fun H2 => ?turn) ?fin
  case turn =>
    rintro i v ys led h tk m' oI C D hv ⟨rfl, hys⟩ F' N' off
    obtain ⟨r, hr, hri⟩ := hp1.get hv
    refine assign_pair (hr.keeps F'.keep) rfl F' N' rfl rfl rfl fun h' tk' t₁ t₂ G M => ?_
    refine wpAny_tests_one ?_
    have hc := (N _ (.head _)).1
    have X' := X.keeps F.keep
    have T' := T.keeps F.keep
    clear F N X T F' N'
    k_steps
    all_goals (rename (_ == _) = _ => he)
    all_goals have ho := ownOf_take hri kw
    all_goals rw [show (r.1 == kw) = _ from he] at ho
    · exact ⟨_, _, _, _, rfl, by assumption, M, (fun p hp => nomatch hp), rfl, by rw [ho]; exact hys.append (.one _ _)⟩
    · exact ⟨_, _, _, _, rfl, by assumption, M, (fun p hp => nomatch hp), rfl, by rw [ho]; simpa using hys⟩
  case fin =>
    rintro C D ys led h tk m' ⟨rfl, hys⟩ F' N' off
    refine post_assign F N F' N' off rfl rfl ?_
    clear F N F' N'
    intro h'' tk'' F N off'
    rw [List.take_of_length_le (by rw [hp.length]; omega)] at hys
    generalize ownOf rs kw = own at hys ⊢
    clear hl1 hp1
    cases hys with
    | nil =>
      k_steps
      rename Fr _ _ _ _ => F'
      exact ⟨_, _, rfl, F'.keep, rfl⟩
    | @cons b tb ys own hys =>
      obtain ⟨tl, hlast⟩ := (BytesAre.cons (b := b) (t := tb) hys).last (by simp)
      k_steps
      all_goals (rename Fr _ _ _ _ => F')
      all_goals (rename (_ == _) = _ => he)
      · exact ⟨_, _, rfl, F'.keep, pickV_t he⟩
      · exact ⟨_, _, rfl, F'.keep, pickV_f he⟩

/-- _law_value -/
theorem lvalue_ok {w mean mg mb} {s : Shared} (B : Base w mean mg mb s.heap) {dp un : Nat} {fr} (hd : dp < 900) (hu : un < 5000) {l : Addr} {vs : List Value} {rs : List (Octs × Octs)} (hl : s.heap.IsList l vs.toArray) (hp : PairsAre s.heap vs rs) (hn : rs.length ≤ 1000000) (kw : Octs) (t : Tok) :
    wpAny (MW w) (arnd dp un fr) (call (.ref 86) [.ref l, .bytes kw.toArray t]) (Ends s fun v _ => IsOpt v (pickV (ownOf rs kw))) never s := by
  refine enterC [("rows", .ref l), ("keyword", .bytes kw.toArray t)] B rfl rfl (by omega) rfl (kindsX (by rfl)) (by decide) fun fr' h₀ L h₁ tk cells ⟨X, T⟩ F N Y kk => ?_
  obtain ⟨o, rfl, hd'⟩ := Y.one
  clear Y
  have hl1 : h₁.IsList l vs.toArray := hl.at (fun o e => F.keep _ o (kk _ o e))
  have hp1 : PairsAre h₁ vs rs := hp.keeps (fun b o e => F.keep b o (kk b o e))
  k_steps
  refine hold_out (assign_comp rfl ?_)
  k_steps
  refine core_list (J := fun i ys led => led = [] ∧ BytesAre ys (ownOf (rs.take i) kw)) (vs := vs) hl1 rfl rfl rfl rfl (by decide) (by rw [hp.length]; omega) ⟨rfl, .nil⟩ (fun H2 => ?turn) ?fin
  case turn =>
    rintro i v ys led h tk m' oI C D hv ⟨rfl, hys⟩ F' N' off
    obtain ⟨r, hr, hri⟩ := hp1.get hv
    refine assign_pair (hr.keeps F'.keep) rfl F' N' rfl rfl rfl fun h' tk' t₁ t₂ G M => ?_
    refine wpAny_tests_one ?_
    have hc := (N _ (.head _)).1
    have X' := X.keeps F.keep
    have T' := T.keeps F.keep
    clear F N X T F' N'
    k_steps
    all_goals (rename (_ == _) = _ => he)
    all_goals have ho := ownOf_take hri kw
    all_goals rw [show (r.1 == kw) = _ from he] at ho
    · exact ⟨_, _, _, _, rfl, by assumption, M, (fun p hp => nomatch hp), rfl, by rw [ho]; exact hys.append (.one _ _)⟩
    · exact ⟨_, _, _, _, rfl, by assumption, M, (fun p hp => nomatch hp), rfl, by rw [ho]; simpa using hys⟩
  case fin =>
    rintro C D ys led h tk m' ⟨rfl, hys⟩ F' N' off
    refine post_assign F N F' N' off rfl rfl ?_
    clear F N F' N'
    intro h'' tk'' F N off'
    rw [List.take_of_length_le (by rw [hp.length]; omega)] at hys
    generalize ownOf rs kw = own at hys ⊢
    clear hl1 hp1
    cases hys with
    | nil =>
      k_steps
      rename Fr _ _ _ _ => F'
      exact ⟨_, _, rfl, F'.keep, rfl⟩
    | @cons b tb ys own hys =>
      obtain ⟨tl, hlast⟩ := (BytesAre.cons (b := b) (t := tb) hys).last (by simp)
      k_steps
      all_goals (rename Fr _ _ _ _ => F')
      all_goals (rename (_ == _) = _ => he)
      · exact ⟨_, _, rfl, F'.keep, pickV_t he⟩
      · exact ⟨_, _, rfl, F'.keep, pickV_f he⟩

/-! F3 -/
noncomputable def endStep (bg en : Octs) (w : Octs) : Int := (if w == bg then 1 else 0) - (if w == en then 1 else 0)
noncomputable def endGo (bg en : Octs) : Int → List (Octs × Octs) → Bool
  | d, [] => d == 0
  | d, r :: rs => if d + endStep bg en r.1 < 0 then false else endGo bg en (d + endStep bg en r.1) rs

theorem drop_at {α : Type} {rs : List α} {i : Nat} {r : α} (h : rs[i]? = some r) : rs.drop i = r :: rs.drop (i + 1) := by
  obtain ⟨h1, rfl⟩ := List.getElem?_eq_some_iff.mp h
  exact List.drop_eq_getElem_cons h1
theorem endGo_next {bg en : Octs} {rs : List (Octs × Octs)} {r : Octs × Octs} {i : Nat} {d : Int} {x y : Bool} (q1 : (r.1 == bg) = x) (q2 : (r.1 == en) = y) (hri : rs[i]? = some r) (hgo : endGo bg en 0 rs = endGo bg en d (rs.drop i)) (d' : Int) (hd' : d' = d + ((if x then 1 else 0) - (if y then 1 else 0))) :
    (d' < 0 → endGo bg en 0 rs = false) ∧ (¬ d' < 0 → endGo bg en 0 rs = endGo bg en d' (rs.drop (i + 1))) := by
  have e : d + endStep bg en r.1 = d' := by unfold endStep; rw [q1, q2, hd']
  rw [drop_at hri] at hgo
  simp only [endGo] at hgo
  rw [e] at hgo
  exact ⟨fun h => by rw [hgo, if_pos h], fun h => by rw [hgo, if_neg h]⟩

noncomputable abbrev endsMap (l : Addr) (bg en : Octs) (t t' : Tok) (mv mw : Option Value) (d : Int) (td : Tok) : Str → Option Value := fun y =>
  if y = Str.ofString "value" then mv else if y = Str.ofString "word" then mw else if y = Str.ofString "depth" then some (.int d td) else List.lookup y ([("rows", Value.ref l), ("begun", .bytes bg.toArray t), ("ended", .bytes en.toArray t')] : List (Str × Value)).reverse

theorem ends_ok {w mean mg mb} {s : Shared} (B : Base w mean mg mb s.heap) {dp un : Nat} {fr} (hd : dp < 900) (hu : un < 5000) {l : Addr} {vs : List Value} {rs : List (Octs × Octs)} (hl : s.heap.IsList l vs.toArray) (hp : PairsAre s.heap vs rs) (hn : rs.length ≤ 1000000) (bg en : Octs) (t t' : Tok) :
    wpAny (MW w) (arnd dp un fr) (call (.ref 54) [.ref l, .bytes bg.toArray t, .bytes en.toArray t']) (Ends s fun v _ => v = .bool (endGo bg en 0 rs)) never s := by
  refine enter [("rows", .ref l), ("begun", .bytes bg.toArray t), ("ended", .bytes en.toArray t')] B rfl rfl (by omega) rfl rfl fun fr' h₀ L h₁ tk ⟨X, T⟩ F N kk => ?_
  have hl0 : h₀.IsList l vs.toArray := hl.at (fun o e => kk _ o e)
  have hp0 : PairsAre h₀ vs rs := hp.keeps kk
  have hlL : l ≠ L := fun e => by
    obtain ⟨o, e', _⟩ := hl0
    exact Nat.lt_irrefl _ (Nat.lt_of_lt_of_le (Heap.lt_size (e ▸ e')) F.above)
  refine post_gen fun QQ hQQ => ?_
  k_steps
  rename Fr _ _ _ _ => F1
  refine hold_out (For_list (J := fun i m led => led = [] ∧ ∃ mv mw d td, m = endsMap l bg en t t' mv mw d td ∧ 0 ≤ d ∧ d ≤ i ∧ endGo bg en 0 rs = endGo bg en d (rs.drop i)) (l := l) (vs := vs) (L := L) (h₀ := h₀) rfl (fun i m led h _ F' _ => ⟨isl_up F' hl0, hlL⟩) ?_ ?_ ?_)
  · refine ld F1 rfl ?_
    refine ⟨rfl, ⟨_, _, rfl⟩, endsMap l bg en t t' none none 0 tk, [], fr_ext F1 fun y => ?_, News.nil, rfl, _, _, _, _, rfl, by decide, by decide, rfl⟩
    unfold endsMap
    ((refine Decidable.byCases (p := y = Str.ofString "value") (fun hh => by subst hh; rfl) (fun hh => ?_); simp only [ite_sk hh]; try clear hh))
    ((refine Decidable.byCases (p := y = Str.ofString "word") (fun hh => by subst hh; rfl) (fun hh => ?_); simp only [ite_sk hh]; try clear hh))
  · rintro i v m led h tk it io hv ⟨rfl, mv, mw, d, td, rfl, hd0, hdi, hgo⟩ F' N' off
    obtain ⟨r, hr, hri⟩ := hp0.get hv
    refine assign_pair (hr.keeps F'.keep) rfl F' N' rfl rfl rfl fun h' tk' t₁ t₂ G M => ?_
    clear F' N' F1
    k_steps
    all_goals (rename Fr _ _ _ _ => F')
    all_goals (rename News _ _ _ _ => N')
    · obtain ⟨_, g⟩ := endGo_next (x := true) (y := true) (by assumption) (by assumption) hri hgo (d + 1 - 1) (by simp)
      refine ⟨_, _, endsMap l bg en t t' (some (.bytes r.2.toArray t₂)) (some (.bytes r.1.toArray t₁)) _ ?_, [], rfl, fr_ext F' fun y => ?_, N', (fun p hp => nomatch hp), rfl, _, _, _, _, rfl, by omega, by omega, g (by omega)⟩
      rotate_left 1
      unfold endsMap
      ((refine Decidable.byCases (p := y = Str.ofString "value") (fun hh => by subst hh; rfl) (fun hh => ?_); simp only [ite_sk hh]; try clear hh))
      ((refine Decidable.byCases (p := y = Str.ofString "word") (fun hh => by subst hh; rfl) (fun hh => ?_); simp only [ite_sk hh]; try clear hh))
      ((refine Decidable.byCases (p := y = Str.ofString "depth") (fun hh => by subst hh; rfl) (fun hh => ?_); simp only [ite_sk hh]; try clear hh))
    · obtain ⟨_, g⟩ := endGo_next (x := true) (y := false) (by assumption) (by assumption) hri hgo (d + 1) (by simp)
      refine ⟨_, _, endsMap l bg en t t' (some (.bytes r.2.toArray t₂)) (some (.bytes r.1.toArray t₁)) _ ?_, [], rfl, fr_ext F' fun y => ?_, N', (fun p hp => nomatch hp), rfl, _, _, _, _, rfl, by omega, by omega, g (by omega)⟩
      rotate_left 1
      unfold endsMap
      ((refine Decidable.byCases (p := y = Str.ofString "value") (fun hh => by subst hh; rfl) (fun hh => ?_); simp only [ite_sk hh]; try clear hh))
      ((refine Decidable.byCases (p := y = Str.ofString "word") (fun hh => by subst hh; rfl) (fun hh => ?_); simp only [ite_sk hh]; try clear hh))
      ((refine Decidable.byCases (p := y = Str.ofString "depth") (fun hh => by subst hh; rfl) (fun hh => ?_); simp only [ite_sk hh]; try clear hh))
    · obtain ⟨g, _⟩ := endGo_next (x := false) (y := true) (by assumption) (by assumption) hri hgo (d - 1) (by simp; omega)
      exact hQQ _ _ ⟨_, _, rfl, F'.keep, congrArg Value.bool (g (by assumption)).symm⟩
    · obtain ⟨_, g⟩ := endGo_next (x := false) (y := true) (by assumption) (by assumption) hri hgo (d - 1) (by simp; omega)
      refine ⟨_, _, endsMap l bg en t t' (some (.bytes r.2.toArray t₂)) (some (.bytes r.1.toArray t₁)) _ ?_, [], rfl, fr_ext F' fun y => ?_, N', (fun p hp => nomatch hp), rfl, _, _, _, _, rfl, by omega, by omega, g (by omega)⟩
      rotate_left 1
      unfold endsMap
      ((refine Decidable.byCases (p := y = Str.ofString "value") (fun hh => by subst hh; rfl) (fun hh => ?_); simp only [ite_sk hh]; try clear hh))
      ((refine Decidable.byCases (p := y = Str.ofString "word") (fun hh => by subst hh; rfl) (fun hh => ?_); simp only [ite_sk hh]; try clear hh))
      ((refine Decidable.byCases (p := y = Str.ofString "depth") (fun hh => by subst hh; rfl) (fun hh => ?_); simp only [ite_sk hh]; try clear hh))
    · obtain ⟨_, g⟩ := endGo_next (x := false) (y := false) (by assumption) (by assumption) hri hgo d (by simp)
      refine ⟨_, _, endsMap l bg en t t' (some (.bytes r.2.toArray t₂)) (some (.bytes r.1.toArray t₁)) d td, [], rfl, fr_ext F' fun y => ?_, N', (fun p hp => nomatch hp), rfl, _, _, _, _, rfl, by omega, by omega, g (by omega)⟩
      unfold endsMap
      ((refine Decidable.byCases (p := y = Str.ofString "value") (fun hh => by subst hh; rfl) (fun hh => ?_); simp only [ite_sk hh]; try clear hh))
      ((refine Decidable.byCases (p := y = Str.ofString "word") (fun hh => by subst hh; rfl) (fun hh => ?_); simp only [ite_sk hh]; try clear hh))
  · rintro m led h tk ⟨rfl, mv, mw, d, td, rfl, hd0, hdi, hgo⟩ F' N'
    clear F1
    k_steps
    rename Fr _ _ _ _ => F'
    rw [List.drop_of_length_le (by rw [hp.length]; exact Nat.le_refl _)] at hgo
    exact hQQ _ _ ⟨_, _, rfl, F'.keep, congrArg Value.bool hgo.symm⟩

/-! F4 -/
noncomputable def pairsOf (bg en : Octs) (rs : List (Octs × Octs)) : Bool :=
  (rs.map fun r => endStep bg en r.1).sum == 0 && ((List.range rs.length).map fun k => decide (((rs.map fun r => endStep bg en r.1).take k).sum ≥ 0)).all id

theorem take_map_next {α β : Type} {rs : List α} {i : Nat} {r : α} (h : rs[i]? = some r) (f : α → β) : (rs.take (i + 1)).map f = (rs.take i).map f ++ [f r] := by
  rw [List.take_add_one, h, List.map_append]; rfl

theorem bools_append : ∀ {vs : List Value} {bs : List Bool}, LSm.BoolsAre vs bs → ∀ b, LSm.BoolsAre (vs ++ [.bool b]) (bs ++ [b])
  | _, _, .nil, b => .cons b .nil
  | _, _, .cons c h, b => .cons c (bools_append h b)

/-- sums of prefixes tell whether the depth stays above the ground -/
theorem endGo_iff (bg en : Octs) : ∀ (rs : List (Octs × Octs)) (d : Int), 0 ≤ d → (endGo bg en d rs = true ↔ d + (rs.map fun r => endStep bg en r.1).sum = 0 ∧ ∀ k, k < rs.length → 0 ≤ d + ((rs.map fun r => endStep bg en r.1).take k).sum)
  | [], d, hd => by simp [endGo]
  | r :: rs, d, hd => by
    have ih := endGo_iff bg en rs (d + endStep bg en r.1)
    simp only [endGo, List.map_cons, List.sum_cons, List.length_cons]
    by_cases h : d + endStep bg en r.1 < 0
    · rw [if_pos h]
      refine ⟨fun e => Bool.noConfusion e, fun ⟨e1, e2⟩ => ?_⟩
      exfalso
      cases rs with
      | nil => simp at e1; omega
      | cons r' rs' =>
        have := e2 1 (by simp)
        simp at this
        omega
    · rw [if_neg h, ih (by omega), Int.add_assoc]
      refine and_congr_right fun _ => ⟨fun e k hk => ?_, fun e k hk => ?_⟩
      · cases k with
        | zero => simpa using hd
        | succ k =>
          have := e k (by omega)
          simp only [List.take_succ_cons, List.sum_cons]
          omega
      · have := e (k + 1) (by omega)
        simp only [List.take_succ_cons, List.sum_cons] at this
        omega
theorem endGo_pairs (bg en : Octs) (rs : List (Octs × Octs)) : endGo bg en 0 rs = pairsOf bg en rs := by
  rw [Bool.eq_iff_iff, endGo_iff bg en rs 0 (Int.le_refl _)]
  unfold pairsOf
  rw [Bool.and_eq_true, beq_iff_eq, List.all_eq_true]
  simp only [Int.zero_add]
  refine and_congr_right fun _ => ⟨fun h b hb => ?_, fun h k hk => ?_⟩
  · obtain ⟨k, hk, rfl⟩ := List.mem_map.mp hb
    exact decide_eq_true (h k (List.mem_range.mp hk))
  · exact of_decide_eq_true (h _ (List.mem_map.mpr ⟨k, List.mem_range.mpr hk, rfl⟩))

theorem pairs_ok {w mean mg mb} {s : Shared} (B : Base w mean mg mb s.heap) {dp un : Nat} {fr} (hd : dp < 900) (hu : un < 5000) {l : Addr} {vs : List Value} {rs : List (Octs × Octs)} (hl : s.heap.IsList l vs.toArray) (hp : PairsAre s.heap vs rs) (hn : rs.length ≤ 1000000) (bg en : Octs) (t t' : Tok) :
    wpAny (MW w) (arnd dp un fr) (call (.ref 91) [.ref l, .bytes bg.toArray t, .bytes en.toArray t']) (Ends s fun v _ => v = .bool (pairsOf bg en rs)) never s := by
  refine enterC [("rows", .ref l), ("begun", .bytes bg.toArray t), ("ended", .bytes en.toArray t')] B rfl rfl (by omega) rfl (kindsX (by rfl)) (by decide) fun fr' h₀ L h₁ tk cells ⟨X, T⟩ F N Y kk => ?_
  obtain ⟨o₁, o₂, o₃, rfl, hd₁, hd₂, hd₃⟩ := Y.three
  clear Y
  have hl1 : h₁.IsList l vs.toArray := hl.at (fun o e => F.keep _ o (kk _ o e))
  have hp1 : PairsAre h₁ vs rs := hp.keeps (fun b o e => F.keep b o (kk b o e))
  refine post_gen fun QQ hQQ => ?_
  k_steps
  refine hold_out (wpAny_Assign_Name (eval_comp ?_))
  k_steps
  refine core_list (J := fun i ys led => led = [] ∧ IntsAre ys ((rs.take i).map fun r => endStep bg en r.1)) (vs := vs) hl1 rfl rfl rfl rfl (by decide) (by rw [hp.length]; omega) ⟨rfl, .nil⟩ (fun H2 => ?turn) ?fin
  case turn =>
    rintro i v ys led h tk m' oI C D hv ⟨rfl, hys⟩ F' N' off
    obtain ⟨r, hr, hri⟩ := hp1.get hv
    refine assign_pair (hr.keeps F'.keep) rfl F' N' rfl rfl rfl fun h' tk' t₁ t₂ G M => ?_
    refine wpAny_tests_nil ?_
    have hc₂ := (N _ (.tail _ (.head _))).1
    have hc₃ := (N _ (.tail _ (.tail _ (.head _)))).1
    have X' := X.keeps F.keep
    have T' := T.keeps F.keep
    clear F N X T F' N'
    k_steps
    (try (any_goals first | exact (0 : Nat) | exact (Str.ofString "") | exact Value.none))
    exact ⟨_, _, _, [], rfl, by assumption, M, (fun p hp => nomatch hp), rfl, by rw [take_map_next hri]; exact hys.append (.cons _ _ .nil)⟩
  case fin =>
    rintro C D ys led h tk m' ⟨rfl, hys⟩ F' N' off
    refine post_none F N F' N' off ?_
    clear F N F' N' off
    intro h'' F N off
    rw [List.take_of_length_le (by rw [hp.length]; omega)] at hys
    k_steps
    (try (any_goals first | exact (0 : Nat) | exact (Str.ofString "") | exact Value.none))
    · rename Fr _ _ _ _ => F1
      rename News _ _ _ _ => N1

      rename _ = Data.cell (some (Value.ref D)) => hD
      refine hold_out (eval_comp ?_)
      k_steps
      (try (any_goals first | exact (0 : Nat) | exact (Str.ofString "") | exact Value.none))
      rename IsRange _ _ _ _ _ _ _ _ => hR
      rename Fr _ _ _ _ => F2
      rename News _ _ _ _ => N2
      have hcd := (N2 _ (.tail _ (.head _))).1
      have hcD := (N2 _ (.head _)).1
      have hlD : Heap.IsList _ D ys.toArray := ⟨_, hcD, rfl, _, rfl⟩
      refine core_range (n := (rs.map fun r => endStep bg en r.1).length) (J := fun i ys led => led = [] ∧ LSm.BoolsAre ys ((List.range i).map fun k => decide (((rs.map fun r => endStep bg en r.1).take k).sum ≥ 0))) hR rfl rfl rfl rfl (by decide) (by rw [List.length_map]; omega) ⟨rfl, .nil⟩ (fun H2 => ?turn2) ?fin2
      case turn2 =>
        rintro i v ys2 led h tk m' oI C D2 ⟨hi, tv, rfl⟩ ⟨rfl, hys2⟩ F' N' off
        have X' := X.keeps F2.keep
        have T' := T.keeps F2.keep
        have hik := hys.take i
        refine assign_one F' N' rfl rfl fun h' tk' G M => ?_
        refine wpAny_tests_nil ?_
        clear F2 N2 X T F' N'
        k_steps
        (try (any_goals first | exact (0 : Nat) | exact (Str.ofString "") | exact Value.none))
        rename Fr _ _ _ _ => F'
        rename News _ _ _ _ => N'
        exact ⟨_, _, _, [], rfl, F', (fun p hp => N' p (.tail _ hp)), (fun p hp => nomatch hp), rfl, by rw [List.range_succ, List.map_append]; exact bools_append hys2 _⟩
      case fin2 =>
        rintro C D2 ys2 led h tk m' ⟨rfl, hys2⟩ F' N' off
        refine post_none F2 N2 F' N' off ?_
        clear F2 N2 F' N' off
        intro h'' F N off
        k_steps
        refine LSm.all_bools F N rfl ⟨_, (N _ (.head _)).1, rfl, _, rfl⟩ hys2 fun h' tk' F N => ?_
        k_steps
        (try (any_goals first | exact (0 : Nat) | exact (Str.ofString "") | exact Value.none))
        rename _ = (0 : Int) => hz
        refine hQQ _ _ ⟨_, _, rfl, F.keep, congrArg Value.bool ?_⟩
        unfold pairsOf
        rw [hz, List.length_map]; rfl
    · rename Fr _ _ _ _ => F1
      refine hQQ _ _ ⟨_, _, rfl, F1.keep, ?_⟩
      rename _ ≠ _ => hne
      unfold pairsOf
      have hne' : ((List.map (fun r => endStep bg en r.fst) rs).sum == 0) = false := by simpa using hne
      rw [hne', Bool.false_and]

/-! F5 -/
theorem dropEnd_keep {cs : List Octs} (h : cs ≠ []) (hc : (cs.getLast h != []) = true) : dropEnd cs = cs := by
  unfold dropEnd
  rw [List.getLast?_eq_some_getLast h, if_neg (by simpa using hc)]
theorem dropEnd_cut {cs : List Octs} (h : cs ≠ []) (hc : (cs.getLast h != []) = false) : dropEnd cs = cs.dropLast := by
  unfold dropEnd
  rw [List.getLast?_eq_some_getLast h, if_pos (by simpa using hc)]
theorem lines_ok {w mean mg mb} {s : Shared} (B : Base w mean mg mb s.heap) {dp un : Nat} {fr} (hd : dp < 900) (b : Octs) (t : Tok) (hb : b.length ≤ 1000000) :
    wpAny (MW w) (arnd dp un fr) (call (.ref 69) [.bytes b.toArray t]) (Ends s fun v h => NewLines s.heap h v (lawLines b)) never s := by
  refine enter [("octets", .bytes b.toArray t)] B rfl rfl (by omega) rfl rfl fun fr' h₀ L h₁ tk ⟨X, T⟩ F N kk => ?_
  rw [lawLines_drop]
  unfold normB
  k_steps
  rename BytesAre _ _ => hv
  have hlen := chopS_length [10] (repS [13] [10] 0 (repS [13, 10] [10] 0 b)) 0 []
  have hl1 := repS_length [13] [10] (by decide) (repS [13, 10] [10] 0 b) 0
  have hl2 := repS_length [13, 10] [10] (by decide) b 0
  have hne := chopS_ne [10] (repS [13] [10] 0 (repS [13, 10] [10] 0 b)) 0 []
  generalize chopS [10] 0 [] (repS [13] [10] 0 (repS [13, 10] [10] 0 b)) = cs at hv hlen hne ⊢
  have hcs : cs.length ≤ 16777216 := by omega
  clear hlen hl1 hl2
  obtain ⟨tl, hlast⟩ := hv.last hne
  k_steps
  all_goals (rename News _ _ _ _ => N')
  all_goals (rename Fr _ _ _ _ => F')
  all_goals (rename (_ != _) = _ => hc)
  · exact ⟨_, _, rfl, F'.keep, _, _, _, rfl, (N' _ (.head _)).1, by rw [dropEnd_keep hne hc]; exact hv, none_up kk (N' _ (.head _)).2.2⟩
  · exact ⟨_, _, rfl, F'.keep, _, _, _, rfl, (N' _ (.head _)).1, by rw [dropEnd_cut hne hc]; exact hv.init, none_up kk (N' _ (.head _)).2.2⟩

/-! F6 -/
theorem placeOf_all {rest : Octs} (h : ∀ c ∈ rest.take rest.length, isEnd c = false) : placeOf rest = rest.length := placeOf_eq (Nat.le_refl _) h (fun h => absurd h (Nat.lt_irrefl _))
theorem parted_1 {rest : Octs} {k : Nat} (hk : k = placeOf rest) : cutL rest none (some (k : Int)) = rest.take (placeOf rest) := by rw [cutL_hi, hk]
theorem parted_t {rest : Octs} {k : Nat} (hk : k = placeOf rest) (he : ((cutL (cutL rest (some (k : Int)) none) none (some 1)).toArray.toList == #[58].toList) = true) :
    stripL [32, 9] (cutL (cutL rest (some (k : Int)) none) (some 1) none) = stripL [32, 9] (if (List.take 1 (List.drop (placeOf rest) rest) == [58]) = true then List.drop (placeOf rest + 1) rest else List.drop (placeOf rest) rest) := by
  rw [cutL_lo] at he ⊢
  have e1 : cutL (rest.drop k) none (some 1) = (rest.drop k).take 1 := cutL_hi _ 1
  have e2 : cutL (rest.drop k) (some 1) none = (rest.drop k).drop 1 := cutL_lo _ 1
  rw [e1] at he
  rw [← hk, e2, if_pos he, List.drop_drop]
theorem parted_f {rest : Octs} {k : Nat} (hk : k = placeOf rest) (he : ((cutL (cutL rest (some (k : Int)) none) none (some 1)).toArray.toList == #[58].toList) = false) :
    stripL [32, 9] (cutL rest (some (k : Int)) none) = stripL [32, 9] (if (List.take 1 (List.drop (placeOf rest) rest) == [58]) = true then List.drop (placeOf rest + 1) rest else List.drop (placeOf rest) rest) := by
  rw [cutL_lo] at he ⊢
  have e1 : cutL (rest.drop k) none (some 1) = (rest.drop k).take 1 := cutL_hi _ 1
  rw [e1] at he
  rw [← hk, if_neg (by rw [show (List.take 1 (List.drop k rest) == [58]) = false from he]; exact Bool.false_ne_true)]
theorem turn_gen {prog : Program} {w : World} {A : Around} {s s0 : Shared} {env : Env} {body : List Stmt} {t : Sem Unit} {h₀ : Heap} {L it : Addr} {io : Obj} {J : (Str → Option Value) → List (Addr × Obj) → Prop} {Q : Flow → Shared → Prop}
    (k : ∀ QT : Flow → Shared → Prop, (∀ s', TurnEnd' h₀ L s it io J s' → QT .next s') → wpAny (model prog w) A t (fun _ s₂ => wpAny (model prog w) A (execs body env) QT never s₂) never s0) : wpAny (model prog w) A t (fun _ s₂ => wpAny (model prog w) A (execs body env) (TurnPost' h₀ L s it io J Q) never s₂) never s0 := k _ fun _ e => e
theorem parted_ok {w mean mg mb} {s : Shared} (B : Base w mean mg mb s.heap) {dp un : Nat} {fr} (hd : dp < 900) (b : Octs) (t : Tok) (hb : b.length ≤ 1000000) :
    wpAny (MW w) (arnd dp un fr) (call (.ref 74) [.bytes b.toArray t]) (Ends s fun v h => NewPair s.heap h v (cutR b)) never s := by
  refine enterC [("line", .bytes b.toArray t)] B rfl rfl (by omega) rfl (kindsX (by rfl)) (by decide) fun fr' h₀ L h₁ tk cells ⟨X, T⟩ F N Y kk => ?_
  obtain ⟨o, rfl, hd₁⟩ := Y.one
  clear Y
  have hr : cutL b (some 2) none = b.drop 2 := cutL_lo b 2
  have hrl : (b.drop 2).length ≤ 1000000 := by rw [List.length_drop]; omega
  unfold cutR
  generalize b.drop 2 = rest at hr hrl ⊢
  refine post_gen fun QQ hQQ => ?_
  k_steps
  rename Fr _ _ _ _ => F1
  rename News _ _ _ _ => N1
  rename _ = Data.cell (some _) => hD
  rw [hr] at hD
  refine hold_out (eval_comp ?_)
  k_steps
  (try (any_goals first | exact (0 : Nat) | exact (Str.ofString "") | exact Value.none))
  rename IsRange _ _ _ _ _ _ _ _ => hR
  rename Fr _ _ _ _ => F2
  rename News _ _ _ _ => N2
  have hcd := (N2 _ (.head _)).1
  show wpAny _ _ _ _ _ ⟨_, s.gens, s.drawn, _, s.os⟩
  refine core_range (n := rest.length) (J := fun i ys led => led = [] ∧ ys.length ≤ i ∧ ((ys = [] ∧ ∀ c ∈ rest.take i, isEnd c = false) ∨ ∃ (k : Nat) (t : Tok) (ys' : List Value), ys = .int (k : Int) t :: ys' ∧ k = placeOf rest ∧ k < rest.length)) hR rfl rfl rfl rfl (by decide) (by omega) ⟨rfl, Nat.zero_le _, .inl ⟨rfl, by simp⟩⟩ (fun H2 => ?turn) ?fin
  case turn =>
    rintro i v ys led h tk m' oI C D ⟨hi, tv, rfl⟩ ⟨rfl, hlen, hys⟩ F' N' off
    have X' := X.keeps F2.keep
    have T' := T.keeps F2.keep
    show wpAny _ _ _ _ _ ⟨_, s.gens, s.drawn, _, s.os⟩
    refine assign_one F' N' rfl rfl fun h' tk' G M => ?_
    refine wpAny_tests_one ?_
    clear F2 N2 X T F' N'
    k_steps
    (try (any_goals first | exact (0 : Nat) | exact (Str.ofString "") | exact Value.none))
    all_goals (rename Fr _ _ _ _ => F')
    all_goals (rename News _ _ _ _ => N')
    all_goals (rename List.contains _ _ = _ => he)
    · refine ⟨_, _, _, [], rfl, F', N', (fun p hp => nomatch hp), rfl, by rw [List.length_append, List.length_singleton]; omega, .inr ?_⟩
      rcases hys with ⟨rfl, hall⟩ | ⟨k, t1, ys', rfl, hk, hkl⟩
      · exact ⟨i, _, [], rfl, (cut_place (by omega) hall (.inr he)).symm, hi⟩
      · exact ⟨k, t1, ys' ++ [_], rfl, hk, hkl⟩
    · refine ⟨_, _, _, [], rfl, F', N', (fun p hp => nomatch hp), rfl, by omega, ?_⟩
      rcases hys with ⟨rfl, hall⟩ | ⟨k, t1, ys', rfl, hk, hkl⟩
      · exact .inl ⟨rfl, cut_more hi hall he⟩
      · exact .inr ⟨k, t1, ys', rfl, hk, hkl⟩
  case fin =>
    rintro C D ys led h tk m' ⟨rfl, hlen, hys⟩ F' N' off
    refine post_none F2 N2 F' N' off ?_
    clear F2 N2 F' N' off
    intro h'' F N off
    show wpAny _ _ _ _ _ ⟨_, s.gens, s.drawn, _, s.os⟩
    rcases hys with ⟨rfl, hall⟩ | ⟨k, tv, ys', rfl, hk, hkl⟩
    · have hk : rest.length = placeOf rest := (placeOf_all hall).symm
      k_steps
      (try (any_goals first | exact (0 : Nat) | exact (Str.ofString "") | exact Value.none))
      all_goals (rename Fr _ _ _ _ => F')
      all_goals (rename News _ _ _ _ => N')
      all_goals (rename (_ == _) = _ => he)
      · exact hQQ _ _ ⟨_, _, rfl, F'.keep, newPair_end (N' _ (.head _)).1 (none_up kk (N' _ (.head _)).2.2) (parted_1 hk) (parted_t hk he)⟩
      · exact hQQ _ _ ⟨_, _, rfl, F'.keep, newPair_end (N' _ (.head _)).1 (none_up kk (N' _ (.head _)).2.2) (parted_1 hk) (parted_f hk he)⟩
    · k_steps
      (try (any_goals first | exact (0 : Nat) | exact (Str.ofString "") | exact Value.none))
      all_goals (rename Fr _ _ _ _ => F')
      all_goals (rename News _ _ _ _ => N')
      all_goals (rename (_ == _) = _ => he)
      · exact hQQ _ _ ⟨_, _, rfl, F'.keep, newPair_end (N' _ (.head _)).1 (none_up kk (N' _ (.head _)).2.2) (parted_1 hk) (parted_t hk he)⟩
      · exact hQQ _ _ ⟨_, _, rfl, F'.keep, newPair_end (N' _ (.head _)).1 (none_up kk (N' _ (.head _)).2.2) (parted_1 hk) (parted_f hk he)⟩

local macro_rules | `(tactic| walk_at "call ref") => `(tactic| ((with_reducible show wpAny _ _ (call (Value.ref 74) [Value.bytes (List.toArray _) _]) _ _ _); (with_reducible rename News _ _ _ _ => kN); (with_reducible rename Fr _ _ _ _ => kF); (refine use_pair (parted_ok (by (walk_at "own mbase")) (by omega) _ _ (by tb_start)) kF kN ?_); clear kF kN; intro _ _ _ _ _ _ _ _))

/-! F7 -/
noncomputable abbrev isBang (b : Octs) : Bool := b.take 2 == [37, 33]
noncomputable abbrev isPlus (b : Octs) : Bool := b.take 3 == [37, 37, 43]
noncomputable abbrev isCmt (b : Octs) : Bool := b.take 2 == [37, 37]
noncomputable def grow (gs : List (Octs × List Octs)) (x : Octs) : List (Octs × List Octs) := match gs.getLast? with
  | none => gs
  | some g => gs.dropLast ++ [(g.1, g.2 ++ [x])]
noncomputable def toldStep (i : Nat) (gs : List (Octs × List Octs)) (b : Octs) : List (Octs × List Octs) :=
  if i = 0 ∧ isBang b = true then gs ++ [([33], [stripL [32, 9] (b.drop 2)])]
  else if isPlus b = true ∧ gs ≠ [] then grow gs (stripL [32, 9] (b.drop 3))
  else if isCmt b = true ∧ isPlus b = false then gs ++ [((cutR b).1, [(cutR b).2])]
  else gs
noncomputable def toldGo : Nat → List (Octs × List Octs) → List Octs → List (Octs × List Octs)
  | _, gs, [] => gs
  | i, gs, b :: bs => toldGo (i + 1) (toldStep i gs b) bs
noncomputable abbrev toldMap (l D : Addr) (mv mw ml mk : Option Value) : Str → Option Value := fun y =>
  if y = Str.ofString "value" then mv else if y = Str.ofString "keyword" then mw else if y = Str.ofString "line" then ml else if y = Str.ofString "k" then mk else if y = Str.ofString "begun" then some (.ref D) else List.lookup y ([(Str.ofString "lines", Value.ref l)] : List (Str × Value)).reverse

theorem toldGo_snoc (b : Octs) : ∀ (xs : List Octs) (k : Nat) (gs : List (Octs × List Octs)), toldGo k gs (xs ++ [b]) = toldStep (k + xs.length) (toldGo k gs xs) b
  | [], k, gs => rfl
  | x :: xs, k, gs => by
    show toldGo (k + 1) (toldStep k gs x) (xs ++ [b]) = _
    rw [toldGo_snoc b xs, List.length_cons, show k + 1 + xs.length = k + (xs.length + 1) by omega]; rfl
theorem told_next {bs : List Octs} {i : Nat} {gs : List (Octs × List Octs)} {b : Octs} (hbi : bs[i]? = some b) (hgo : gs = toldGo 0 [] (bs.take i)) : toldStep i gs b = toldGo 0 [] (bs.take (i + 1)) := by
  have hl : (bs.take i).length = i := by
    have := (List.getElem?_eq_some_iff.mp hbi).1
    rw [List.length_take]; omega
  rw [List.take_add_one, hbi]
  show _ = toldGo 0 [] (bs.take i ++ [b])
  rw [toldGo_snoc, hl, Nat.zero_add, hgo]
theorem grow_snoc (gs : List (Octs × List Octs)) (kw : Octs) (bs : List Octs) (x : Octs) : grow (gs ++ [(kw, bs)]) x = gs ++ [(kw, bs ++ [x])] := by
  unfold grow; simp
theorem cutR_length (b : Octs) : (cutR b).1.length ≤ b.length ∧ (cutR b).2.length ≤ b.length := by
  unfold cutR
  refine ⟨?_, Nat.le_trans (stripL_length _ _) ?_⟩
  · rw [List.length_take, List.length_drop]; omega
  · split <;> simp only [List.length_drop] <;> omega
noncomputable def TG (i : Nat) (gs : List (Octs × List Octs)) : Prop := ∀ g ∈ gs, g.2 ≠ [] ∧ g.2.length ≤ i ∧ (∀ x ∈ g.2, x.length ≤ 1000) ∧ g.1.length ≤ 1000
theorem TG.put {i gs} (h : TG i gs) {kw x : Octs} (hk : kw.length ≤ 1000) (hx : x.length ≤ 1000) : TG (i + 1) (gs ++ [(kw, [x])]) := fun g hg => by
  rcases List.mem_append.mp hg with hg | hg
  · obtain ⟨a, b, c, d⟩ := h g hg; exact ⟨a, by omega, c, d⟩
  · rw [List.mem_singleton.mp hg]
    exact ⟨by simp, by simp, fun y hy => by rw [List.mem_singleton.mp hy]; exact hx, hk⟩
theorem TG.step {i gs} {b : Octs} (h : TG i gs) (hb : b.length ≤ 1000) : TG (i + 1) (toldStep i gs b) := by
  have s2 : (stripL [32, 9] (b.drop 2)).length ≤ 1000 := Nat.le_trans (stripL_length _ _) (by rw [List.length_drop]; omega)
  have s3 : (stripL [32, 9] (b.drop 3)).length ≤ 1000 := Nat.le_trans (stripL_length _ _) (by rw [List.length_drop]; omega)
  unfold toldStep
  split
  · exact h.put (by simp) s2
  · split
    · rename_i hh
      rcases List.eq_nil_or_concat gs with e | ⟨r, g, rfl⟩
      · exact absurd e hh.2
      · obtain ⟨kw, ys⟩ := g
        rw [List.concat_eq_append] at h ⊢
        rw [grow_snoc]
        intro g hg
        rcases List.mem_append.mp hg with hg | hg
        · obtain ⟨a, b, c, d⟩ := h g (List.mem_append_left _ hg); exact ⟨a, by omega, c, d⟩
        · obtain ⟨a, b, c, d⟩ := h (kw, ys) (List.mem_append_right _ (.head _))
          rw [List.mem_singleton.mp hg]
          refine ⟨by simp, by simp at b ⊢; omega, fun y hy => ?_, d⟩
          rcases List.mem_append.mp hy with hy | hy
          · exact c y hy
          · rw [List.mem_singleton.mp hy]; exact s3
    · split
      · exact h.put (Nat.le_trans (cutR_length b).1 hb) (Nat.le_trans (cutR_length b).2 hb)
      · exact fun g hg => by obtain ⟨a, b, c, d⟩ := h g hg; exact ⟨a, by omega, c, d⟩
theorem told_TG : ∀ (bs : List Octs) (i : Nat) (gs), TG i gs → (∀ b ∈ bs, b.length ≤ 1000) → TG (i + bs.length) (toldGo i gs bs)
  | [], i, gs, h, _ => h
  | b :: bs, i, gs, h, hb => by
    have := told_TG bs (i + 1) (toldStep i gs b) (h.step (hb b (.head _))) fun x hx => hb x (.tail _ hx)
    rw [List.length_cons, show i + (bs.length + 1) = i + 1 + bs.length by omega]
    exact this
theorem told_pre {bs : List Octs} {i : Nat} {gs} (hsz : ∀ b ∈ bs, b.length ≤ 1000) (hgo : gs = toldGo 0 [] (bs.take i)) : TG i gs := by
  subst hgo
  have := told_TG (bs.take i) 0 [] (fun g hg => by cases hg) fun b hb => hsz b (List.mem_of_mem_take hb)
  intro g hg
  obtain ⟨a, b, c, d⟩ := this g hg
  rw [List.length_take] at b
  exact ⟨a, by omega, c, d⟩
theorem ts_bang {i : Nat} {gs : List (Octs × List Octs)} {b : Octs} (h0 : i = 0) (hB : isBang b = true) : toldStep i gs b = gs ++ [([33], [stripL [32, 9] (cutL b (some 2) none)])] := by
  have e : cutL b (some 2) none = b.drop 2 := cutL_lo b 2
  unfold toldStep; rw [if_pos ⟨h0, hB⟩, e]
theorem ts_plus {i : Nat} {gs : List (Octs × List Octs)} {b : Octs} {kw : Octs} {bs : List Octs} (h : ¬ (i = 0 ∧ isBang b = true)) (hP : isPlus b = true) : toldStep i (gs ++ [(kw, bs)]) b = gs ++ [(kw, bs ++ [stripL [32, 9] (cutL b (some 3) none)])] := by
  have e : cutL b (some 3) none = b.drop 3 := cutL_lo b 3
  unfold toldStep; rw [if_neg h, if_pos ⟨hP, by simp⟩, grow_snoc, e]
theorem ts_cmt {i : Nat} {gs : List (Octs × List Octs)} {b : Octs} (h : ¬ (i = 0 ∧ isBang b = true)) (hC : isCmt b = true) (hP : isPlus b = false) : toldStep i gs b = gs ++ [((cutR b).1, [(cutR b).2])] := by
  unfold toldStep; rw [if_neg h, if_neg (fun x => by rw [hP] at x; exact Bool.noConfusion x.1), if_pos ⟨hC, hP⟩]
theorem ts_skip {i : Nat} {gs : List (Octs × List Octs)} {b : Octs} (h : ¬ (i = 0 ∧ isBang b = true)) (h2 : isPlus b = false ∨ gs = []) (h3 : isCmt b = false ∨ isPlus b = true) : toldStep i gs b = gs := by
  unfold toldStep
  rw [if_neg h, if_neg (fun x => h2.elim (fun y => by rw [y] at x; exact Bool.noConfusion x.1) x.2), if_neg (fun x => h3.elim (fun y => by rw [y] at x; exact Bool.noConfusion x.1) (fun y => by rw [y] at x; exact Bool.noConfusion x.2))]

noncomputable def wholeOf : List Octs → Octs
  | [] => []
  | b :: r => r.foldl (fun w m => stripL [32, 9] (w ++ [32] ++ m)) b
noncomputable def toldL (bs : List Octs) : List (Octs × Octs) := (toldGo 0 [] bs).map fun g => (g.1, wholeOf g.2)
noncomputable abbrev foundMap (l D D2 : Addr) (a1 a2 a3 a4 a5 a6 a7 : Option Value) : Str → Option Value := fun y =>
  if y = Str.ofString "more" then a1 else if y = Str.ofString "whole" then a2 else if y = Str.ofString "values" then a3 else if y = Str.ofString "keyword" then a4 else if y = Str.ofString "value" then a5 else if y = Str.ofString "line" then a6 else if y = Str.ofString "k" then a7
  else if y = Str.ofString "found" then some (.ref D2) else if y = Str.ofString "begun" then some (.ref D) else List.lookup y ([(Str.ofString "lines", Value.ref l)] : List (Str × Value)).reverse

noncomputable abbrev ToldJ (l : Addr) (bs : List Octs) (i : Nat) (m : Str → Option Value) (led : Ledger) : Prop := ∃ D ws gs gl n mv mw ml mk, m = toldMap l D mv mw ml mk ∧ led = (D, LO ws n) :: gl ∧ Groups ws gs gl ∧ (led.map (·.1)).Nodup ∧ ws.length ≤ i ∧ gs = toldGo 0 [] (bs.take i)
theorem told_fm {l D : Addr} {mv mw ml mk u v : Option Value} : ∀ y, (if y = Str.ofString "line" then u else if y = Str.ofString "k" then v else toldMap l D mv mw ml mk y) = toldMap l D mv mw u v y := fun y => by
  unfold toldMap
  ((refine Decidable.byCases (p := y = Str.ofString "line") (fun hh => by subst hh; rfl) (fun hh => ?_); simp only [ite_sk hh]; try clear hh))
  ((refine Decidable.byCases (p := y = Str.ofString "k") (fun hh => by subst hh; rfl) (fun hh => ?_); simp only [ite_sk hh]; try clear hh))
noncomputable abbrev FoundJ (l D D2 : Addr) (ws : List Value) (n : Nat) (gl : Ledger) (gs : List (Octs × List Octs)) (i : Nat) (m : Str → Option Value) (led : Ledger) : Prop := ∃ us n2 tl a1 a2 a3 a4 a5 a6 a7, m = foundMap l D D2 a1 a2 a3 a4 a5 a6 a7 ∧ led = (D2, LO us n2) :: (tl ++ (D, LO ws n) :: gl) ∧ PairsL tl us ((gs.take i).map fun g => (g.1, wholeOf g.2)) ∧ (∀ x ∈ tl ++ (D, LO ws n) :: gl, x.1 ≠ D2)
noncomputable abbrev WholeJ (l D D2 p q : Addr) (kw : Octs) (tt : Tok) (a5 a6 a7 : Option Value) (ys : List Octs) (x1 : Octs) (xs : List Value) (rest : Ledger) (l' : Addr) (zs : List Value) (j : Nat) (m : Str → Option Value) (led : Ledger) : Prop := zs = xs ∧ led = (l', W.listOf (List.toArray xs) 0) :: rest ∧ ∃ w tw b1, m = foundMap l D D2 b1 (some (.bytes (List.toArray w) tw)) (some (.ref q)) (some (.bytes (List.toArray kw) tt)) a5 a6 a7 ∧ w = (ys.take j).foldl (fun w m => stripL [32, 9] (w ++ [32] ++ m)) x1 ∧ w.length ≤ 1001 * (j + 1)
theorem told_ok {w mean mg mb} {s : Shared} (B : Base w mean mg mb s.heap) {dp un : Nat} {fr} (hd : dp < 800) (hu : un < 5000) {l : Addr} {vs : List Value} {bs : List Octs} (hl : s.heap.IsList l vs.toArray) (hb : BytesAre vs bs) (hn : bs.length ≤ 1000) (hsz : ∀ b ∈ bs, b.length ≤ 1000) :
    wpAny (MW w) (arnd dp un fr) (call (.ref 81) [.ref l]) (Ends s fun v h => NewPairs s.heap h v (toldL bs)) never s := by
  refine enter [("lines", .ref l)] B rfl rfl (by omega) rfl rfl fun fr' h₀ L h₁ tk ⟨X, T⟩ F N kk => ?_
  refine post_gen fun QQ hQQ => ?_
  have hl0 : h₀.IsList l vs.toArray := hl.at (fun o e => kk _ o e)
  k_steps
  rename Fr _ _ _ _ => F1
  rename News _ _ _ _ => N1
  refine hold_out ?_
  show wpAny _ _ _ _ _ ⟨_, s.gens, s.drawn, _, s.os⟩
  refine (For_enum (l := l) (vs := vs) (h₀ := h₀) (J := ToldJ l bs) rfl rfl rfl rfl (fun i m led h _ F' _ => isl_up F' hl0) ?_ ?_ ?_)
  · k_steps
    (try (any_goals first | exact (0 : Nat) | exact (Str.ofString "") | exact Value.none))
    rename Fr _ _ _ _ => F1
    exact enum_start (isl_up F1 hl0) F1 N1 (fun h => ⟨_, rfl⟩) ⟨_, [], [], [], 0, none, none, none, none, funext fun y => by
      unfold toldMap
      ((refine Decidable.byCases (p := y = Str.ofString "value") (fun hh => by subst hh; rfl) (fun hh => ?_); simp only [ite_sk hh]; try clear hh))
      ((refine Decidable.byCases (p := y = Str.ofString "keyword") (fun hh => by subst hh; rfl) (fun hh => ?_); simp only [ite_sk hh]; try clear hh))
      ((refine Decidable.byCases (p := y = Str.ofString "line") (fun hh => by subst hh; rfl) (fun hh => ?_); simp only [ite_sk hh]; try clear hh))
      ((refine Decidable.byCases (p := y = Str.ofString "k") (fun hh => by subst hh; rfl) (fun hh => ?_); simp only [ite_sk hh]; try clear hh)), rfl, .nil, by simp, Nat.zero_le _, rfl⟩
  · rintro i v m led h tk e it oe oi ti hv ⟨D, ws, gs, gl, n, mv, mw, ml, mk, rfl, rfl, hG, hnd, hwl, hgo⟩ F N off
    obtain ⟨b, t, rfl, hbi⟩ := hb.get hv
    have hbl : b.length ≤ 1000 := hsz b (List.mem_of_getElem? hbi)
    have hib : i < bs.length := (List.getElem?_eq_some_iff.mp hbi).1
    have F2 := fr_ext F (told_fm (l := l) (D := D) (mv := mv) (mw := mw) (ml := ml) (mk := mk) (u := some (.bytes b.toArray t)) (v := some (.int (i : Int) ti)))
    clear F1 N1 F
    refine post_gen fun QT hQT => ?_
    show wpAny _ _ _ _ _ ⟨_, s.gens, s.drawn, _, s.os⟩
    refine if_mid (RMid s h₀ L (toldMap l D mv mw (some (.bytes b.toArray t)) (some (.int (i : Int) ti))) ((e, oe) :: (it, oi) :: (D, LO ws n) :: gl) (decide (i = 0) && isBang b)) ?_ ?_ ?_
    · k_steps
      all_goals (rename Fr _ _ _ _ => F')
      all_goals (rename News _ _ _ _ => N')
      all_goals first
        | exact hold_out ⟨_, _, rfl, F', N', c_off (by assumption)⟩
        | exact hold_out ⟨_, _, rfl, F', N', c_on (by assumption) (bang_of (by assumption))⟩
    · rintro s' ⟨h', tk', rfl, F', N', hc⟩
      obtain ⟨h0, hB⟩ := c_true hc
      clear F2 N
      k_steps
      (try (any_goals first | exact (0 : Nat) | exact (Str.ofString "") | exact Value.none))
      (rename Fr _ _ _ _ => F')
      (rename News _ _ _ _ => N')
      (repeat (rename _ ∧ _ => hh; obtain ⟨_, _⟩ := hh))
      have hs := ts_bang (gs := gs) h0 hB
      refine hold_out (append_group (gl := gl) F' N' (by k_mem) (by k_mem) (by k_mem) (by k_mem) (by k_mem) (by ((intro x hx; repeat (first | exact hx | (apply List.mem_cons_of_mem))))) (Ne.symm (off _ (.head _)).1) (Ne.symm (off _ (.head _)).2) (by exact Nat.ne_of_gt (by assumption)) (by exact Nat.ne_of_gt (by assumption)) (gl_off hnd) (by omega) ?_)
      clear F' N'
      intro _ F' N'
      k_steps
      (rename Fr _ _ _ _ => F'); (rename News _ _ _ _ => N')
      refine hQT .next _ ?_
      refine ⟨_, _, toldMap l D ?_ ?_ ?_ ?_, _, rfl, fr_ext F' fun y => ?fm, N', off_group off (by omega) (by omega) (by omega) (by omega), D, _, _, _, _, _, _, _, _, rfl, rfl, .snoc hG (.one _ _), nodup_group hnd (by omega) (by omega) (by omega) (by ((refine allLt_mem _ ?_; repeat' (first | exact trivial | assumption | constructor)))) (by ((refine allLt_mem _ ?_; repeat' (first | exact trivial | assumption | constructor)))), len1 hwl, by have z := told_next hbi hgo; rw [hs] at z; exact z⟩
      case fm => rfl
    · rintro s' ⟨h', tk', rfl, F', N', hc⟩
      have hb0 := c_false hc
      clear F2 N
      refine if_mid (RMid s h₀ L (toldMap l D mv mw (some (.bytes b.toArray t)) (some (.int (i : Int) ti))) ((e, oe) :: (it, oi) :: (D, LO ws n) :: gl) (isPlus b && !(ws.length == 0))) ?_ ?_ ?_
      · k_steps
        all_goals (rename Fr _ _ _ _ => F')
        all_goals (rename News _ _ _ _ => N')
        all_goals first
          | exact hold_out ⟨_, _, rfl, F', (by intro x hx; exact N' x (by ((repeat (first | exact hx | (apply List.mem_cons_of_mem)))))), d_off (plus_of (by assumption))⟩
          | exact hold_out ⟨_, _, rfl, F', (by intro x hx; exact N' x (by ((repeat (first | exact hx | (apply List.mem_cons_of_mem)))))), d_not (plus_of (by assumption)) (by assumption)⟩
      · rintro s' ⟨h', tk', rfl, F'', N'', hc⟩
        obtain ⟨hP, hne⟩ := d_true hc
        clear F' N'
        cases hG with
        | nil => exact absurd rfl hne
        | @snoc ws gs gl p q kw tt n₁ n₂ xs ys hG hxy =>
          have hlast : (ws ++ [Value.ref p]).getLast? = some (.ref p) := by simp
          have hyl := (told_pre hsz hgo (kw, ys) (List.mem_append_right _ (.head _))).2.1
          simp only at hyl
          k_steps
          (try (any_goals first | exact (0 : Nat) | exact (Str.ofString "") | exact Value.none))
          (rename Fr _ _ _ _ => F')
          (rename News _ _ _ _ => N')
          have hs := ts_plus (i := i) (b := b) (gs := gs) (kw := kw) (bs := ys) hb0 hP
          refine hold_out (append_plus (gl := gl) F' N' (by k_mem) (by k_mem) (by k_mem) (by k_mem) (by k_mem) (by ((intro x hx; repeat (first | exact hx | (apply List.mem_cons_of_mem))))) off hnd (by rw [hxy.length]; omega) ?_)
          clear F' N'
          intro _ F' N'
          k_steps
          (rename Fr _ _ _ _ => F'); (rename News _ _ _ _ => N')
          refine hQT .next _ ?_
          exact ⟨_, _, _, _, rfl, F', N', off_same off, D, _, _, _, _, _, _, _, _, rfl, rfl, .snoc hG (hxy.append (.one _ _)), nodup_same hnd, by (simp only [List.length_append, List.length_cons, List.length_nil] at hwl ⊢; omega), by have z := told_next hbi hgo; rw [hs] at z; exact z⟩
      · rintro s' ⟨h', tk', rfl, F'', N'', hc⟩
        have hp0 := g_false hG hc
        clear F' N'
        refine if_mid (RMid s h₀ L (toldMap l D mv mw (some (.bytes b.toArray t)) (some (.int (i : Int) ti))) ((e, oe) :: (it, oi) :: (D, LO ws n) :: gl) (isCmt b && !isPlus b)) ?_ ?_ ?_
        · k_steps
          all_goals (rename Fr _ _ _ _ => F')
          all_goals (rename News _ _ _ _ => N')
          all_goals first
            | exact hold_out ⟨_, _, rfl, F', N', d_off (cmt_of (by assumption))⟩
            | exact hold_out ⟨_, _, rfl, F', N', d_not (cmt_of (by assumption)) (plus_ne (by assumption))⟩
        · rintro s' ⟨h', tk', rfl, F', N', hc⟩
          obtain ⟨hC, hP⟩ := e_true hc
          clear F'' N''
          k_steps
          (try (any_goals first | exact (0 : Nat) | exact (Str.ofString "") | exact Value.none))
          (rename Fr _ _ _ _ => F')
          (rename News _ _ _ _ => N')
          (repeat (rename _ ∧ _ => hh; obtain ⟨_, _⟩ := hh))
          have hs := ts_cmt (i := i) (b := b) (gs := gs) hb0 hC hP
          refine hold_out (append_group (gl := gl) F' N' (by k_mem) (by k_mem) (by k_mem) (by k_mem) (by k_mem) (by ((intro x hx; repeat (first | exact hx | (apply List.mem_cons_of_mem))))) (Ne.symm (off _ (.head _)).1) (Ne.symm (off _ (.head _)).2) (by exact Nat.ne_of_gt (by assumption)) (by exact Nat.ne_of_gt (by assumption)) (gl_off hnd) (by omega) ?_)
          clear F' N'
          intro _ F' N'
          k_steps
          (rename Fr _ _ _ _ => F'); (rename News _ _ _ _ => N')
          refine hQT .next _ ?_
          refine ⟨_, _, toldMap l D ?_ ?_ ?_ ?_, _, rfl, fr_ext F' fun y => ?fm, N', off_group off (by omega) (by omega) (by omega) (by omega), D, _, _, _, _, _, _, _, _, rfl, rfl, .snoc hG (.one _ _), nodup_group hnd (by omega) (by omega) (by omega) (by ((refine allLt_mem _ ?_; repeat' (first | exact trivial | assumption | constructor)))) (by ((refine allLt_mem _ ?_; repeat' (first | exact trivial | assumption | constructor)))), len1 hwl, by have z := told_next hbi hgo; rw [hs] at z; exact z⟩
          case fm =>
            (unfold toldMap)
            (((refine Decidable.byCases (p := y = Str.ofString "value") (fun hh => by subst hh; rfl) (fun hh => ?_); simp only [ite_sk hh]; try clear hh))); (((refine Decidable.byCases (p := y = Str.ofString "keyword") (fun hh => by subst hh; rfl) (fun hh => ?_); simp only [ite_sk hh]; try clear hh))); (((refine Decidable.byCases (p := y = Str.ofString "line") (fun hh => by subst hh; rfl) (fun hh => ?_); simp only [ite_sk hh]; try clear hh)))
        · rintro s' ⟨h', tk', rfl, F', N', hc⟩
          clear F'' N''
          have hs := ts_skip (i := i) (b := b) (gs := gs) hb0 hp0 (e_false hc)
          refine wpAny_execs_nil ?_
          refine hQT .next _ ?_
          exact ⟨_, _, _, _, rfl, F', N', off, D, _, _, _, _, _, _, _, _, rfl, rfl, hG, hnd, Nat.le_succ_of_le hwl, by have z := told_next hbi hgo; rw [hs] at z; exact z⟩
  · rintro m led h tk ⟨D, ws, gs, gl, n, mv, mw, ml, mk, rfl, rfl, hG, hnd, hwl, hgo⟩ F N
    rw [List.take_of_length_le (by rw [hb.length]; exact Nat.le_refl _)] at hgo
    have hTG : TG bs.length gs := by
      subst hgo
      have := told_TG bs 0 [] (fun g hg => by cases hg) hsz
      rwa [Nat.zero_add] at this
    rw [hb.length] at hwl
    clear F1 N1
    k_steps
    (try (any_goals first | exact (0 : Nat) | exact (Str.ofString "") | exact Value.none))
    rename Fr _ _ _ _ => F1
    rename News _ _ _ _ => N1
    rename_i D2 _ _ _ hlt2 _
    refine hold_out ?_
    show wpAny _ _ _ _ _ ⟨_, s.gens, s.drawn, _, s.os⟩
    refine (For_list (J := FoundJ l D D2 ws n gl gs) (l := D) (vs := ws) (L := L) (h₀ := h₀) rfl (fun i m led h hJ F' N' => ?_) ?_ ?_ ?_)
    · obtain ⟨us, n2, tl, _, _, _, _, _, _, _, rfl, rfl, _, _⟩ := hJ
      have z := N' (D, LO ws n) (by simp)
      exact ⟨⟨_, z.1, rfl, _, rfl⟩, z.2.1⟩
    · refine ld F1 rfl ?_
      refine ⟨rfl, ⟨_, _, rfl⟩, foundMap l D D2 none ?_ none ?_ ?_ ?_ ?_, _, fr_ext F1 fun y => ?_, N1, [], 0, [], _, _, _, _, _, _, _, rfl, rfl, .nil, fun x hx => ?_⟩
      rotate_left 5
      unfold foundMap toldMap
      ((refine Decidable.byCases (p := y = Str.ofString "more") (fun hh => by subst hh; rfl) (fun hh => ?_); simp only [ite_sk hh]; try clear hh))
      ((refine Decidable.byCases (p := y = Str.ofString "whole") (fun hh => by subst hh; rfl) (fun hh => ?_); simp only [ite_sk hh]; try clear hh))
      ((refine Decidable.byCases (p := y = Str.ofString "values") (fun hh => by subst hh; rfl) (fun hh => ?_); simp only [ite_sk hh]; try clear hh))
      ((refine Decidable.byCases (p := y = Str.ofString "keyword") (fun hh => by subst hh; rfl) (fun hh => ?_); simp only [ite_sk hh]; try clear hh))
      ((refine Decidable.byCases (p := y = Str.ofString "value") (fun hh => by subst hh; rfl) (fun hh => ?_); simp only [ite_sk hh]; try clear hh))
      ((refine Decidable.byCases (p := y = Str.ofString "line") (fun hh => by subst hh; rfl) (fun hh => ?_); simp only [ite_sk hh]; try clear hh))
      ((refine Decidable.byCases (p := y = Str.ofString "k") (fun hh => by subst hh; rfl) (fun hh => ?_); simp only [ite_sk hh]; try clear hh))
      have hx : x ∈ (D, LO ws n) :: gl := hx
      rcases List.mem_cons.mp hx with rfl | hx
      · exact Nat.ne_of_lt hlt2.1
      · exact Nat.ne_of_lt (allLt_mem _ hlt2.2 _ hx)
    · rintro i v m led h tk it io hv ⟨us, n2, tl, a1, a2, a3, a4, a5, a6, a7, rfl, rfl, hPL, hoff⟩ F' N' off
      refine turn_gen fun Q2 hQ2 => ?_
      obtain ⟨p, q, kw, tt, n₁, n₂, xs, ys, rfl, hgi, hp, hq, hxy⟩ := hG.get hv
      have hg := hTG (kw, ys) (List.mem_of_getElem? hgi)
      simp only at hg
      obtain ⟨g1, g2, g3, g4⟩ := hg
      have N2 : News h₀ L h ((it, io) :: (p, LO [.bytes (List.toArray kw) tt, .ref q] n₁) :: (q, LO xs n₂) :: (D2, LO us n2) :: (tl ++ (D, LO ws n) :: gl)) := fun x hx => by
        simp only [List.mem_cons] at hx
        rcases hx with rfl | rfl | rfl | rfl | hx
        · exact N' _ (.head _)
        · exact N' _ (by simp [hp])
        · exact N' _ (by simp [hq])
        · exact N' _ (.tail _ (.head _))
        · exact N' _ (.tail _ (.tail _ hx))
      clear N' N1 F1
      cases hxy with
      | nil => exact absurd rfl g1
      | @cons x1 t1 xs ys hxy =>
        have hx1 : x1.length ≤ 1000 := g3 x1 (.head _)
        have hlen : (Value.bytes (List.toArray x1) t1 :: xs).length ≤ 16777216 := by
          simp only [List.length_cons] at g2 ⊢
          rw [hxy.length]; omega
        k_steps
        (try (any_goals first | exact (0 : Nat) | exact (Str.ofString "") | exact Value.none))
        rename Fr _ _ _ _ => F2
        rename News _ _ _ _ => N2
        refine hold_out ?_
        show wpAny _ _ _ _ _ ⟨_, s.gens, s.drawn, _, s.os⟩
        refine (For_list2 (J := WholeJ l D D2 p q kw tt a5 a6 a7 ys x1 xs ((it, io) :: (p, LO [.bytes (List.toArray kw) tt, .ref q] n₁) :: (q, LO (Value.bytes (List.toArray x1) t1 :: xs) n₂) :: (D2, LO us n2) :: (tl ++ (D, LO ws n) :: gl))) (L := L) (h₀ := h₀) rfl (fun l' zs j m led h hJ F' N' => ?_) ?_ ?_ ?_)
        · obtain ⟨rfl, rfl, _⟩ := hJ
          have z := N' _ (.head _)
          exact ⟨⟨_, z.1, rfl, _, rfl⟩, z.2.1⟩
        · k_steps
          any_goals (rename Fr _ _ _ _ => F'; refine fr_ext F' fun y => ?_; unfold foundMap; (((refine Decidable.byCases (p := y = Str.ofString "more") (fun hh => by subst hh; rfl) (fun hh => ?_); simp only [ite_sk hh]; try clear hh))); (((refine Decidable.byCases (p := y = Str.ofString "whole") (fun hh => by subst hh; rfl) (fun hh => ?_); simp only [ite_sk hh]; try clear hh))); (((refine Decidable.byCases (p := y = Str.ofString "values") (fun hh => by subst hh; rfl) (fun hh => ?_); simp only [ite_sk hh]; try clear hh))); (((refine Decidable.byCases (p := y = Str.ofString "keyword") (fun hh => by subst hh; rfl) (fun hh => ?_); simp only [ite_sk hh]; try clear hh))))
          any_goals (rename News _ _ _ _ => N'; exact N')
          any_goals ((simp only [List.take_zero, List.foldl_nil]); omega)
        · rintro l' zs j v m led h tk it3 io3 hv2 ⟨rfl, rfl, w, tw, b1, rfl, hw, hwl2⟩ F' N' off3
          refine turn_gen fun Q3 hQ3 => ?_
          obtain ⟨mo, tm, rfl, hmo⟩ := hxy.get hv2
          have hmol : mo.length ≤ 1000 := g3 mo (.tail _ (List.mem_of_getElem? hmo))
          have hjl : j < 1000 := by
            have := (List.getElem?_eq_some_iff.mp hmo).1
            simp only [List.length_cons] at g2; omega
          have hwb : w.length ≤ 1002000 := by omega
          refine assign_one F' N' rfl rfl fun h' tk' G M => ?_
          clear F' N' F2 N2
          k_steps
          (try (any_goals first | exact (0 : Nat) | exact (Str.ofString "") | exact Value.none))
          rename Fr _ _ _ _ => F'
          rename News _ _ _ _ => N'
          refine hQ3 _ ?_
          refine ⟨_, _, foundMap l D D2 (some (.bytes mo.toArray tm)) (some (.bytes (List.toArray (stripL [32, 9] (w ++ [32] ++ mo))) ?_)) (some (.ref q)) (some (.bytes (List.toArray kw) tt)) a5 a6 a7, _, rfl, fr_ext F' fun y => ?_, N', off3, ?_⟩
          rotate_left 1
          · unfold foundMap
            ((refine Decidable.byCases (p := y = Str.ofString "whole") (fun hh => by subst hh; rfl) (fun hh => ?_); simp only [ite_sk hh]; try clear hh))
            ((refine Decidable.byCases (p := y = Str.ofString "more") (fun hh => by subst hh; rfl) (fun hh => ?_); simp only [ite_sk hh]; try clear hh))
          · refine ⟨by first | trivial | rfl, by first | trivial | rfl, _, _, _, rfl, ?_, ?_⟩
            · rw [List.take_add_one, hmo, List.foldl_append, ← hw]; rfl
            · refine Nat.le_trans (stripL_length _ _) ?_
              simp only [List.length_append, List.length_cons, List.length_nil]
              omega
        · rintro l' zs m led h tk ⟨rfl, rfl, w, tw, b1, rfl, hw, hwl2⟩ F' N'
          clear F2 N2
          k_steps
          (try (any_goals first | exact (0 : Nat) | exact (Str.ofString "") | exact Value.none))
          (repeat (rename _ ∧ _ => hh; obtain ⟨_, _⟩ := hh))
          rename Fr _ _ _ _ => F'
          rename News _ _ _ _ => N'
          have hul : us.length ≤ 1000 := by
            have e1 := hPL.length
            rw [List.length_map, List.length_take] at e1
            have e2 := hG.length
            omega
          have hdt := off (D2, LO us n2) (.head _)
          refine hold_out (append_pair (tl := tl ++ (D, LO ws n) :: gl) F' N' (by k_mem) (by k_mem) (by k_mem) (by ((intro x hx; repeat (first | exact hx | (apply List.mem_cons_of_mem))))) (Ne.symm hdt) (by exact Nat.ne_of_gt (by assumption)) hoff (by omega) ?_)
          clear F' N'
          intro _ F' N'
          k_steps
          (try (any_goals first | exact (0 : Nat) | exact (Str.ofString "") | exact Value.none))
          rename Fr _ _ _ _ => F'
          rename News _ _ _ _ => N'
          rw [List.take_of_length_le (by rw [hxy.length]; exact Nat.le_refl _)] at hw
          refine hQ2 _ ?_
          refine ⟨_, _, foundMap l D D2 b1 (some (.bytes (List.toArray w) tw)) (some (.ref q)) (some (.bytes (List.toArray kw) tt)) a5 a6 a7, _, rfl, F', N', ?_, us ++ [_], n2 + 1, (_, tupO [.bytes (List.toArray kw) tt, .bytes (List.toArray w) tw]) :: tl, _, _, _, _, _, _, _, rfl, rfl, ?_, ?_⟩
          · intro x hx
            simp only [List.mem_cons] at hx
            rcases hx with rfl | rfl | hx
            · exact off (D2, LO us n2) (.head _)
            · exact Nat.ne_of_gt (by assumption)
            · exact off x (.tail _ hx)
          · rw [take_map_next hgi]
            have e : w = wholeOf (x1 :: ys) := hw
            rw [← e]
            exact .snoc hPL
          · intro x hx
            rcases List.mem_cons.mp hx with rfl | hx
            · exact Nat.ne_of_gt (by assumption)
            · exact hoff x hx
    · rintro m led h tk ⟨us, n2, tl, a1, a2, a3, a4, a5, a6, a7, rfl, rfl, hPL, hoff⟩ F' N'
      clear F1 N1
      k_steps
      (try (any_goals first | exact (0 : Nat) | exact (Str.ofString "") | exact Value.none))
      rename Fr _ _ _ _ => F'
      rename News _ _ _ _ => N'
      rw [List.take_of_length_le (by rw [hG.length]; exact Nat.le_refl _), hgo] at hPL
      refine hQQ _ _ ?_
      exact ⟨_, _, rfl, F'.keep, _, _, _, _, rfl, (N' _ (.head _)).1, hPL, none_up kk (N' _ (.head _)).2.2, fun x hx => ⟨(N' x (.tail _ (List.mem_append_left _ hx))).1, none_up kk (N' x (.tail _ (List.mem_append_left _ hx))).2.2⟩⟩

/-! F8 -/
theorem keeper_type (T : String) : keeperOf (.type T) = pure .machine := rfl
theorem keeper_builtin (T : String) : keeperOf (.builtin T) = pure .machine := rfl
noncomputable abbrev scanMap (b : Octs) (t : Tok) (lf ba : Addr) (k : Nat) (tk : Tok) (a1 : Option Value) : Str → Option Value := fun y =>
  if y = Str.ofString "octet" then a1 else if y = Str.ofString "at" then some (.int (k : Int) tk) else if y = Str.ofString "line" then some (.ref ba) else if y = Str.ofString "found" then some (.ref lf) else List.lookup y ([(Str.ofString "octets", Value.bytes b.toArray t)] : List (Str × Value)).reverse
theorem octet_is {b : Octs} {k : Nat} (hlt : k < b.length) : b.getD (k : Int).toNat 0 = b[k] := by
  rw [Int.toNat_natCast]; exact (List.getElem_eq_getD (h := hlt) 0).symm
theorem nat_octet {c : UInt8} {n : Nat} (hn : n < 256) : (((c.toNat : Nat) : Int) == (n : Int)) = (c == n.toUInt8) := by
  rw [Bool.eq_iff_iff, beq_iff_eq, beq_iff_eq]
  constructor
  · intro h
    have h := Int.ofNat_inj.mp h
    exact UInt8.toNat_inj.mp (by rw [h]; simp; omega)
  · rintro rfl; simp; omega
theorem end_is {c : UInt8} : ((((c.toNat : Nat) : Int) == 10) || (((c.toNat : Nat) : Int) == 13)) = (c == 10 || c == 13) := by
  have h1 := nat_octet (c := c) (n := 10) (by decide)
  have h2 := nat_octet (c := c) (n := 13) (by decide)
  rw [show ((10 : Int)) = ((10 : Nat) : Int) from rfl, show ((13 : Int)) = ((13 : Nat) : Int) from rfl, h1, h2]; rfl
theorem cut2_is {b : Octs} {k : Nat} : cutL b (some (k : Int)) (some ((k : Int) + 2)) = (b.drop k).take 2 := by
  have := cutL_mid b k (k + 2)
  rw [Nat.add_sub_cancel_left] at this
  exact this
theorem scan_crlf {b cur : Octs} {k : Nat} (h : ((List.toArray (cutL b (some (k : Int)) (some ((k : Int) + 2)))).toList == #[13, 10].toList) = true) : k + 2 ≤ b.length ∧ scanF cur (b.drop k) = cur :: scanF [] (b.drop (k + 2)) := by
  have h' : (b.drop k).take 2 = [13, 10] := by rw [cut2_is] at h; exact eq_of_beq h
  have e : b.drop k = [13, 10] ++ b.drop (k + 2) := by
    have := List.take_append_drop 2 (b.drop k)
    rw [h', List.drop_drop] at this
    exact this.symm
  have hl := congrArg List.length h'
  rw [List.length_take, List.length_drop] at hl
  simp only [List.length_cons, List.length_nil] at hl
  refine ⟨by omega, ?_⟩
  rw [e]; exact scanF_crlf cur _
theorem scan_end {b cur : Octs} {k : Nat} (hlt : k < b.length) (hend : (((((b.getD (k : Int).toNat 0).toNat : Nat) : Int) == 10) || ((((b.getD (k : Int).toNat 0).toNat : Nat) : Int) == 13)) = true)
    (h : ((List.toArray (cutL b (some (k : Int)) (some ((k : Int) + 2)))).toList == #[13, 10].toList) = false) : scanF cur (b.drop k) = cur :: scanF [] (b.drop (k + 1)) := by
  have hdr : b.drop k = b[k] :: b.drop (k + 1) := List.drop_eq_getElem_cons hlt
  have h' : ¬ (b.drop k).take 2 = [13, 10] := fun e => by
    rw [cut2_is, e] at h; exact Bool.noConfusion h
  rw [octet_is hlt, end_is] at hend
  rw [hdr] at h' ⊢
  rcases Bool.or_eq_true_iff.mp hend with e | e
  · rw [eq_of_beq e]; exact scanF_lf cur _
  · rw [eq_of_beq e] at h' ⊢
    refine scanF_cr cur _ fun e2 => h' ?_
    cases hr : b.drop (k + 1) with
    | nil => rw [hr] at e2; simp at e2
    | cons d r => rw [hr] at e2; simp at e2; subst e2; rfl
theorem scan_oth {b cur : Octs} {k : Nat} (hlt : k < b.length) (hend : (((((b.getD (k : Int).toNat 0).toNat : Nat) : Int) == 10) || ((((b.getD (k : Int).toNat 0).toNat : Nat) : Int) == 13)) = false) :
    scanF cur (b.drop k) = scanF (cur ++ [b.getD (k : Int).toNat 0]) (b.drop (k + 1)) := by
  have hdr : b.drop k = b[k] :: b.drop (k + 1) := List.drop_eq_getElem_cons hlt
  rw [octet_is hlt] at hend ⊢
  rw [end_is] at hend
  rw [hdr]
  have h10 : b[k] ≠ 10 := fun e => by rw [e] at hend; exact Bool.noConfusion hend
  have h13 : b[k] ≠ 13 := fun e => by rw [e] at hend; exact Bool.noConfusion hend
  exact scanF_other cur _ _ h13 h10
theorem len_snoc {us : List Value} {x : Value} {k k' : Nat} (h : us.length ≤ k) (h' : k + 1 ≤ k') : (us ++ [x]).length ≤ k' := by rw [List.length_append, List.length_singleton]; omega
theorem scanF_nil (cur : Octs) : scanF cur [] = if cur = [] then [] else [cur] := by unfold scanF; rfl

noncomputable abbrev ScanI (b : Octs) (t : Tok) (s : Shared) (h₀ : Heap) (L : Addr) (n : Nat) (s₂ : Shared) : Prop := ∃ h tk us nf k cur ds lf ba tk1 a1, s₂ = { s with heap := h, toks := tk } ∧ Fr h₀ L h (scanMap b t lf ba k tk1 a1) ∧ News h₀ L h [(lf, LO us nf), (ba, baO cur)] ∧ BytesAre us ds ∧ lf ≠ ba ∧ k ≤ b.length ∧ n = b.length - k ∧ scanF [] b = ds ++ scanF cur (b.drop k) ∧ cur.length ≤ k ∧ us.length ≤ k
theorem scan_ok {w mean mg mb} {s : Shared} (B : Base w mean mg mb s.heap) {dp un : Nat} {fr} (hd : dp < 800) (hu : un < 5000) (b : Octs) (t : Tok) (hb : b.length ≤ 1000) :
    wpC (MW w) (arnd dp un fr) (call (.ref 28) [.bytes b.toArray t]) (Ends s fun v h => NewLines s.heap h v (scanF [] b)) never s := by
  refine enter_c [("octets", .bytes b.toArray t)] B rfl rfl (by omega) rfl rfl fun fr' h₀ L h₁ tk ⟨X, T⟩ F N kk => ?_
  refine postC_gen fun QQ hQQ => ?_
  refine execsC_cons ?_
  refine assignTupC ?_
  refine tupleC ?_
  show wpC _ _ (spliced [(false, eval _ _), (false, eval _ _), (false, eval _ _)]) _ _ _
  refine splicedC_cons (wpC_of ?_)
  k_steps
  refine splicedC_cons (callNameC ?_)
  k_steps
  refine callWithC_machine rfl (keeper_type _) (splicedC_nil ?_)
  rename Fr _ _ _ _ => F1
  rename News _ _ _ _ => N1
  refine new_ba_led rfl F1 N1 fun ba h2 F2 N2 lt2 => ?_
  clear F1 N1
  refine splicedC_cons (wpC_of ?_)
  k_steps
  refine splicedC_nil ?_
  k_steps
  (try (any_goals first | exact (0 : Nat) | exact (Str.ofString "") | exact Value.none))
  refine execsC_cons ?_
  refine whileC (I := ScanI b t s h₀ L) ?_ (b.length - 0) ?_
  rotate_left 1
  · rename Fr _ _ _ _ => F'
    rename News _ _ _ _ => N'
    refine ⟨_, _, [], 0, 0, [], [], ?_, ba, ?_, none, rfl, fr_ext F' fun y => ?_, fun x hx => ?_, .nil, ?_, Nat.zero_le _, rfl, rfl, Nat.le_refl _, Nat.le_refl _⟩
    rotate_left 2
    · unfold scanMap
      ((refine Decidable.byCases (p := y = Str.ofString "found") (fun hh => by subst hh; rfl) (fun hh => ?_); simp only [ite_sk hh]; try clear hh))
      ((refine Decidable.byCases (p := y = Str.ofString "line") (fun hh => by subst hh; rfl) (fun hh => ?_); simp only [ite_sk hh]; try clear hh))
      ((refine Decidable.byCases (p := y = Str.ofString "at") (fun hh => by subst hh; rfl) (fun hh => ?_); simp only [ite_sk hh]; try clear hh))
      refine Decidable.byCases (p := y = Str.ofString "octet") (fun hh => by subst hh; rfl) (fun hh => ?_)
      simp only [ite_sk hh]
    · simp only [List.mem_cons, List.not_mem_nil, or_false] at hx
      rcases hx with rfl | rfl
      · exact N' _ (by k_mem)
      · exact N' _ (by k_mem)
    · exact Nat.ne_of_lt (lt2 _ (.head _))
  · clear lt2
    rintro n s₂ ⟨h, tk, us, nf, k, cur, ds, lf, ba, tk1, a1, rfl, F3, N3, hus, hne, hk, rfl, hsc, hcl, hul⟩
    refine wpC_of ?_
    k_steps
    · rename decide _ = true => hlt
      have hlt := Int.ofNat_lt.mp (of_decide_eq_true hlt)
      have hgd : b.getD k 0 = b[k] := (List.getElem_eq_getD (h := hlt) 0).symm
      have hdr : b.drop k = b[k] :: b.drop (k + 1) := List.drop_eq_getElem_cons hlt
      refine postC_gen fun QT hQT => ?_
      refine execsC_cons (wpC_of ?_)
      k_steps
      refine execsC_cons (ifC (wpC_of ?_))
      k_steps
      all_goals (rename Fr _ _ _ _ => F4)
      all_goals (rename News _ _ _ _ => N4)
      all_goals (rename (_ || _) = _ => hend)
      · refine execsC_cons (wpC_of ?_)
        k_steps
        rename Fr _ _ _ _ => F4
        rename News _ _ _ _ => N4
        refine hold_out (append_led (rest := [(ba, baO cur)]) F4 N4 (by k_mem) (fun x hx => .tail _ hx) (fun x hx => by rw [List.mem_singleton.mp hx]; exact Ne.symm hne) (by omega) ?_)
        clear F4 N4
        intro h5 F5 N5
        k_steps
        refine execsC_cons (assignC (callNameC ?_))
        k_steps
        refine callWithC_machine rfl (keeper_type _) (splicedC_nil ?_)
        rename Fr _ _ _ _ => F5
        refine new_ba_led rfl F5 N5 fun ba' h6 F6 N6 lt6 => ?_
        clear F5 N5
        k_steps
        refine wpC_of ?_
        k_steps
        all_goals (refine wpC_of ?_)
        all_goals k_steps
        all_goals (rename Fr _ _ _ _ => F7)
        all_goals (rename News _ _ _ _ => N7)
        all_goals (rename (_ == _) = _ => hcr)
        · obtain ⟨hk2, hs2⟩ := scan_crlf (cur := cur) hcr
          refine hQT .next _ ?_
          refine ⟨b.length - (k + 2), by omega, _, _, us ++ [.bytes (List.toArray cur) ?_], nf + 1, k + 2, [], ds ++ [cur], lf, ba', ?_, ?_, rfl, fr_ext F7 fun y => ?fm, fun x hx => ?nw, hus.append (.one _ _), Nat.ne_of_lt (lt6 _ (.head _)), hk2, rfl, by rw [hsc, hs2, List.append_assoc]; rfl, Nat.zero_le _, len_snoc hul (by omega)⟩
          case fm =>
            unfold scanMap
            ((refine Decidable.byCases (p := y = Str.ofString "at") (fun hh => by subst hh; rfl) (fun hh => ?_); simp only [ite_sk hh]; try clear hh))
            ((refine Decidable.byCases (p := y = Str.ofString "line") (fun hh => by subst hh; rfl) (fun hh => ?_); simp only [ite_sk hh]; try clear hh))
            ((refine Decidable.byCases (p := y = Str.ofString "octet") (fun hh => by subst hh; rfl) (fun hh => ?_); simp only [ite_sk hh]; try clear hh))
          case nw =>
            simp only [List.mem_cons, List.not_mem_nil, or_false] at hx
            rcases hx with rfl | rfl
            · exact N7 _ (by k_mem)
            · exact N7 _ (by k_mem)
        · have hs2 := scan_end (cur := cur) hlt hend hcr
          refine hQT .next _ ?_
          refine ⟨b.length - (k + 1), by omega, _, _, us ++ [.bytes (List.toArray cur) ?_], nf + 1, k + 1, [], ds ++ [cur], lf, ba', ?_, ?_, rfl, fr_ext F7 fun y => ?fm, fun x hx => ?nw, hus.append (.one _ _), Nat.ne_of_lt (lt6 _ (.head _)), hlt, rfl, by rw [hsc, hs2, List.append_assoc]; rfl, Nat.zero_le _, len_snoc hul (by omega)⟩
          case fm =>
            unfold scanMap
            ((refine Decidable.byCases (p := y = Str.ofString "at") (fun hh => by subst hh; rfl) (fun hh => ?_); simp only [ite_sk hh]; try clear hh))
            ((refine Decidable.byCases (p := y = Str.ofString "line") (fun hh => by subst hh; rfl) (fun hh => ?_); simp only [ite_sk hh]; try clear hh))
            ((refine Decidable.byCases (p := y = Str.ofString "octet") (fun hh => by subst hh; rfl) (fun hh => ?_); simp only [ite_sk hh]; try clear hh))
          case nw =>
            simp only [List.mem_cons, List.not_mem_nil, or_false] at hx
            rcases hx with rfl | rfl
            · exact N7 _ (by k_mem)
            · exact N7 _ (by k_mem)
      · refine execsC_cons (exprC (methodC_ba rfl rfl rfl ?_))
        k_steps
        rename News _ _ _ _ => N4
        refine hold_out ⟨ba, cur, rfl, ba_led N4 (by k_mem), ?_⟩
        refine callWithC_machine rfl (keeper_builtin _) ?_
        show wpC _ _ (spliced [(false, eval _ _)]) _ _ _
        refine splicedC_cons (wpC_of ?_)
        k_steps
        refine splicedC_nil ?_
        rename Fr _ _ _ _ => F4
        rename News _ _ _ _ => N4
        refine append_ba_led (rest := [(lf, LO us nf)]) rfl F4 N4 (by k_mem) (fun x hx => by rw [List.mem_singleton.mp hx]; exact .head _) (fun x hx => by rw [List.mem_singleton.mp hx]; exact hne) (by omega) ?_
        clear F4 N4
        intro h5 F5 N5
        refine wpC_of ?_
        k_steps
        refine wpC_of ?_
        k_steps
        rename Fr _ _ _ _ => F7
        rename News _ _ _ _ => N7
        have hs2 := scan_oth (cur := cur) hlt hend
        refine hQT .next _ ?_
        refine ⟨b.length - (k + 1), by omega, _, _, us, nf, k + 1, cur ++ [_], ds, lf, ba, ?_, ?_, rfl, fr_ext F7 fun y => ?fm, fun x hx => ?nw, hus, hne, hlt, rfl, by rw [hsc, hs2], by rw [List.length_append, List.length_singleton]; omega, by omega⟩
        case fm =>
          unfold scanMap
          ((refine Decidable.byCases (p := y = Str.ofString "at") (fun hh => by subst hh; rfl) (fun hh => ?_); simp only [ite_sk hh]; try clear hh))
          ((refine Decidable.byCases (p := y = Str.ofString "octet") (fun hh => by subst hh; rfl) (fun hh => ?_); simp only [ite_sk hh]; try clear hh))
        case nw =>
          simp only [List.mem_cons, List.not_mem_nil, or_false] at hx
          rcases hx with rfl | rfl
          · exact N7 _ (by k_mem)
          · exact N7 _ (by k_mem)
    · rename decide _ = false => hge
      have hge := of_decide_eq_false hge
      have hkb : k = b.length := by omega
      rw [hkb, List.drop_of_length_le (Nat.le_refl _), scanF_nil] at hsc
      refine wpC_of ?_
      k_steps
      · rename (0 : Int) < _ => hpos
        rename Fr _ _ _ _ => F4
        rename News _ _ _ _ => N4
        refine hold_out (append_led (rest := [(ba, baO cur)]) F4 N4 (by k_mem) (fun x hx => .tail _ hx) (fun x hx => by rw [List.mem_singleton.mp hx]; exact Ne.symm hne) (by omega) ?_)
        clear F4 N4
        intro h5 F5 N5
        k_steps
        rename Fr _ _ _ _ => F7
        rename News _ _ _ _ => N7
        rw [if_neg (fun e => by rw [e] at hpos; exact absurd hpos (by decide))] at hsc
        refine hQQ _ _ ?_
        exact ⟨_, _, rfl, F7.keep, _, _, _, rfl, (N7 _ (.head _)).1, by rw [hsc]; exact hus.append (.one _ _), none_up kk (N7 _ (.head _)).2.2⟩
      · rename ¬ (0 : Int) < _ => hpos
        rename Fr _ _ _ _ => F7
        rename News _ _ _ _ => N7
        have hnil : cur = [] := List.length_eq_zero_iff.mp (by omega)
        rw [if_pos hnil, List.append_nil] at hsc
        refine hQQ _ _ ?_
        exact ⟨_, _, rfl, F7.keep, _, _, _, rfl, (N7 _ (.head _)).1, by rw [hsc]; exact hus, none_up kk (N7 _ (.head _)).2.2⟩

/-! F9 -/
noncomputable def R1 (g : Octs × List Octs) : Octs × Octs := (g.1, wholeOf g.2)
theorem scan_bound (b : Octs) : (scanF [] b).length ≤ b.length + 1 ∧ ∀ x ∈ scanF [] b, x.length ≤ b.length := by
  have hn : (normB b).length ≤ b.length := Nat.le_trans (repS_length _ _ (by decide) _ _) (repS_length _ _ (by decide) _ _)
  have e : scanF [] b = dropEnd (chopS [10] 0 [] (normB b)) := (scan_is b.length b [] (Nat.le_refl _)).symm
  have h1 := chopS_length [10] (normB b) 0 []
  have h2 := chopS_part [10] (normB b) 0 []
  rw [e]; unfold dropEnd
  split
  · refine ⟨by rw [List.length_dropLast]; omega, fun x hx => ?_⟩
    have := h2 x (List.dropLast_subset _ hx)
    simp only [List.length_nil] at this; omega
  · refine ⟨by omega, fun x hx => ?_⟩
    have := h2 x hx
    simp only [List.length_nil] at this; omega
theorem wholeOf_snoc {ys : List Octs} (h : ys ≠ []) (x : Octs) : wholeOf (ys ++ [x]) = stripL [32, 9] (wholeOf ys ++ [32] ++ x) := by
  cases ys with
  | nil => exact absurd rfl h
  | cons y ys => simp [wholeOf, List.foldl_append]
theorem foldl_bound : ∀ (ys : List Octs) (w : Octs), (∀ x ∈ ys, x.length ≤ 1000) → (ys.foldl (fun w m => stripL [32, 9] (w ++ [32] ++ m)) w).length ≤ w.length + 1001 * ys.length
  | [], w, _ => by simp
  | y :: ys, w, h => by
    rw [List.foldl_cons]
    refine Nat.le_trans (foldl_bound ys _ fun x hx => h x (.tail _ hx)) ?_
    have h1 := stripL_length [32, 9] (w ++ [32] ++ y)
    have h2 := h y (.head _)
    simp only [List.length_append, List.length_cons, List.length_nil] at h1 ⊢
    omega
theorem wholeOf_bound {ys : List Octs} (h : ∀ x ∈ ys, x.length ≤ 1000) : (wholeOf ys).length ≤ 1001 * ys.length := by
  cases ys with
  | nil => simp [wholeOf]
  | cons y ys =>
    have h1 := foldl_bound ys y fun x hx => h x (.tail _ hx)
    have h2 := h y (.head _)
    refine Nat.le_trans (show (wholeOf (y :: ys)).length ≤ _ from h1) ?_
    rw [List.length_cons]; omega
theorem last_group {rs : List (Octs × Octs)} {a c : Octs} {gs : List (Octs × List Octs)} (h : rs ++ [(a, c)] = gs.map R1) : ∃ gs' ys, gs = gs' ++ [(a, ys)] ∧ rs = gs'.map R1 ∧ c = wholeOf ys := by
  rcases List.eq_nil_or_concat gs with rfl | ⟨gs', g, rfl⟩
  · simp at h
  · rw [List.concat_eq_append, List.map_append] at h
    obtain ⟨h1, h2⟩ := List.append_inj' h rfl
    simp only [List.map_cons, List.map_nil, List.cons.injEq, and_true] at h2
    obtain ⟨k, ys⟩ := g
    simp only [R1, Prod.mk.injEq] at h2
    obtain ⟨rfl, rfl⟩ := h2
    exact ⟨gs', ys, by simp, h1, rfl⟩
theorem append_row {prog : Program} {w : World} {A : Around} {E : Value → Shared → Prop} {s : Shared} {h₀ : Heap} {L D p l e it : Addr} {oe oi ol : Obj} {a c : Octs} {t₁ t₂ : Tok} {m : Str → Option Value} {led tl : Ledger} {us : List Value} {n : Nat} {Q : Value → Shared → Prop} (F : Fr h₀ L s.heap m) (N : News h₀ L s.heap led)
    (hp : (p, tupO [.bytes a.toArray t₁, .bytes c.toArray t₂]) ∈ led) (hD : (D, LO us n) ∈ led) (hl : (l, ol) ∈ led) (he : (e, oe) ∈ led) (hi : (it, oi) ∈ led) (htl : ∀ x ∈ tl, x ∈ led)
    (d1 : e ≠ D) (d2 : it ≠ D) (d3 : l ≠ D) (d4 : p ≠ D) (d5 : ∀ x ∈ tl, x.1 ≠ D) (hsz : us.length ≤ 16777216)
    (h : ∀ h', Fr h₀ L h' m → News h₀ L h' ((e, oe) :: (it, oi) :: (D, LO (us ++ [.ref p]) (n + 1)) :: (l, ol) :: (p, tupO [.bytes a.toArray t₁, .bytes c.toArray t₂]) :: tl) → Q .none { s with heap := h' }) :
    wpAny (model prog w) A (call (.builtin "list.append") [.ref D, .ref p]) Q E s := by
  refine append_led (rest := (e, oe) :: (it, oi) :: (l, ol) :: (p, tupO [.bytes a.toArray t₁, .bytes c.toArray t₂]) :: tl) F N hD (fun x hx => ?_) (fun x hx => ?_) hsz fun h' F' N' => h h' F' fun x hx => N' x ?_
  · simp only [List.mem_cons] at hx
    rcases hx with rfl | rfl | rfl | rfl | hx
    · exact he
    · exact hi
    · exact hl
    · exact hp
    · exact htl x hx
  · simp only [List.mem_cons] at hx
    rcases hx with rfl | rfl | rfl | rfl | hx
    · exact d1
    · exact d2
    · exact d3
    · exact d4
    · exact d5 x hx
  · simp only [List.mem_cons] at hx ⊢
    rcases hx with rfl | rfl | rfl | rfl | rfl | hx
    · exact .inr (.inl rfl)
    · exact .inr (.inr (.inl rfl))
    · exact .inl rfl
    · exact .inr (.inr (.inr (.inl rfl)))
    · exact .inr (.inr (.inr (.inr (.inl rfl))))
    · exact .inr (.inr (.inr (.inr (.inr hx))))
theorem nodup_row {D l p : Addr} {o o' ol op : Obj} {tl : Ledger} (nd : (((D, o) :: (l, ol) :: tl : Ledger).map (·.1)).Nodup) (h1 : D ≠ p) (h2 : l ≠ p) (h3 : ∀ x ∈ tl, x.1 ≠ p) : (((D, o') :: (l, ol) :: (p, op) :: tl : Ledger).map (·.1)).Nodup := by
  simp only [List.map_cons, List.nodup_cons, List.mem_cons, not_or, List.mem_map, not_exists, not_and] at nd ⊢
  exact ⟨⟨nd.1.1, h1, nd.1.2⟩, ⟨h2, nd.2.1⟩, fun x hx e => h3 x hx e, nd.2.2⟩
theorem off_row {D l p e it : Addr} {o o' ol op : Obj} {tl : Ledger} (off : ∀ x ∈ ((D, o) :: (l, ol) :: tl : Ledger), x.1 ≠ e ∧ x.1 ≠ it) (h1 : e ≠ p) (h2 : it ≠ p) : ∀ x ∈ ((D, o') :: (l, ol) :: (p, op) :: tl : Ledger), x.1 ≠ e ∧ x.1 ≠ it := fun x hx => by
  simp only [List.mem_cons] at hx
  rcases hx with rfl | rfl | rfl | hx
  · exact off (D, o) (.head _)
  · exact off _ (.tail _ (.head _))
  · exact ⟨Ne.symm h1, Ne.symm h2⟩
  · exact off x (.tail _ (.tail _ hx))
theorem tl_off {D l : Addr} {o ol : Obj} {tl : Ledger} (nd : (((D, o) :: (l, ol) :: tl : Ledger).map (·.1)).Nodup) : l ≠ D ∧ ∀ x ∈ tl, x.1 ≠ D := by
  simp only [List.map_cons, List.nodup_cons, List.mem_cons, not_or, List.mem_map, not_exists, not_and] at nd
  exact ⟨Ne.symm nd.1.1, fun x hx e => nd.1.2 x hx e⟩
theorem R1_snoc (gs : List (Octs × List Octs)) (kw x : Octs) : (gs ++ [(kw, [x])]).map R1 = gs.map R1 ++ [(kw, x)] := by simp [R1, wholeOf]
theorem rows_nil {gs : List (Octs × List Octs)} (h : [] = gs.map R1) : gs = [] := List.map_eq_nil_iff.mp h.symm
theorem set_row {prog : Program} {w : World} {A : Around} {E : Value → Shared → Prop} {s : Shared} {h₀ : Heap} {L D p l e it : Addr} {oe oi ol : Obj} {a c : Octs} {t t₁ t₂ : Tok} {m : Str → Option Value} {led tl : Ledger} {us : List Value} {x : Value} {n : Nat} {Q : Unit → Shared → Prop} (F : Fr h₀ L s.heap m) (N : News h₀ L s.heap led)
    (hp : (p, tupO [.bytes a.toArray t₁, .bytes c.toArray t₂]) ∈ led) (hD : (D, LO (us ++ [x]) n) ∈ led) (hl : (l, ol) ∈ led) (he : (e, oe) ∈ led) (hi : (it, oi) ∈ led) (htl : ∀ x ∈ tl, x ∈ led)
    (d1 : e ≠ D) (d2 : it ≠ D) (d3 : l ≠ D) (d4 : p ≠ D) (d5 : ∀ x ∈ tl, x.1 ≠ D)
    (h : ∀ h' n', Fr h₀ L h' m → News h₀ L h' ((e, oe) :: (it, oi) :: (D, LO (us ++ [.ref p]) n') :: (l, ol) :: (p, tupO [.bytes a.toArray t₁, .bytes c.toArray t₂]) :: tl) → Q () { s with heap := h' }) :
    wpAny (model prog w) A (setItem (.ref D) (.int (-1) t) (.ref p)) Q E s := by
  have z := N _ hD
  refine setItem_last z.1 (by simp) fun h' n' hO hs => ?_
  rw [List.dropLast_concat] at hO
  refine h h' n' (F.change hs z.2.1 z.2.2) fun y hy => ?_
  have keep : ∀ y ∈ led, y.1 ≠ D → h'.get? y.1 = some y.2 ∧ y.1 ≠ L ∧ h₀.get? y.1 = none := fun y hy hne => ⟨hs.extBut _ _ hne (N y hy).1, (N y hy).2⟩
  simp only [List.mem_cons] at hy
  rcases hy with rfl | rfl | rfl | rfl | rfl | hy
  · exact keep _ he d1
  · exact keep _ hi d2
  · exact ⟨hO, z.2⟩
  · exact keep _ hl d3
  · exact keep _ hp d4
  · exact keep _ (htl _ hy) (d5 _ hy)
theorem fresh_ne {h₀ h : Heap} {L p : Addr} {led : Ledger} (N : News h₀ L h led) (hn : h.get? p = none) : ∀ x ∈ led, x.1 ≠ p := fun x hx e => by
  have := (N x hx).1
  rw [e, hn] at this; exact nomatch this
theorem enum_startL {prog : Program} {w : World} {A : Around} {s : Shared} {L : Addr} {l : Addr} {items : Array Value} {h₀ : Heap} {m : Str → Option Value} {led : Ledger} {s0 : Shared} {J : (Str → Option Value) → Ledger → Prop} (hl : s.heap.IsList l items) (F : Fr h₀ L s.heap m) (N : News h₀ L s.heap led)
    (hs : ∀ h, ∃ tk, ({ s with heap := h } : Shared) = { s0 with heap := h, toks := tk }) (hJ : J m led) :
    wpAny (model prog w) A (call (.type "enumerate") [.ref l]) (fun x s₁ => ∃ e it h tk m led, x = .ref e ∧ s₁ = { s0 with heap := h, toks := tk } ∧ e ≠ it ∧ IsEnum h e it 0 .none ∧ h.IsListIter it l 0 ∧ l ≠ e ∧ l ≠ it ∧ Fr h₀ L h m ∧ News h₀ L h led ∧ (e ≠ L ∧ h₀.get? e = none) ∧ (it ≠ L ∧ h₀.get? it = none) ∧ (∀ p ∈ led, p.1 ≠ e ∧ p.1 ≠ it) ∧ J m led) never s := by
  refine call_enumerate_list hl fun h' he hit hz up => ?_
  obtain ⟨tk, e⟩ := hs h'
  obtain ⟨ol, hol, _⟩ := id hl
  have hlt := Heap.lt_size hol
  have hL := F.ns.lt
  have fresh : ∀ a, s.heap.objs.size ≤ a → h₀.get? a = none := fun a ha => by
    cases q : h₀.get? a with
    | none => rfl
    | some o => exact absurd (Heap.lt_size (F.keep _ _ q)) (Nat.not_lt.mpr ha)
  refine ⟨s.heap.objs.size + 1, s.heap.objs.size, h', tk, m, led, rfl, e, Nat.succ_ne_self _, he, hit, Nat.ne_of_lt (Nat.lt_succ_of_lt hlt), Nat.ne_of_lt hlt, F.keeps up, fun p hp => ⟨up _ _ (N p hp).1, (N p hp).2⟩, ⟨Ne.symm (Nat.ne_of_lt (Nat.lt_succ_of_lt hL)), fresh _ (Nat.le_succ _)⟩, ⟨Ne.symm (Nat.ne_of_lt hL), fresh _ (Nat.le_refl _)⟩, fun p hp => ?_, hJ⟩
  have := Heap.lt_size (N p hp).1
  exact ⟨Nat.ne_of_lt (Nat.lt_succ_of_lt this), Nat.ne_of_lt this⟩
theorem off_drop {D l p e it : Addr} {o ol op : Obj} {tl : Ledger} (off : ∀ x ∈ ((D, o) :: (l, ol) :: (p, op) :: tl : Ledger), x.1 ≠ e ∧ x.1 ≠ it) : ∀ x ∈ ((D, o) :: (l, ol) :: tl : Ledger), x.1 ≠ e ∧ x.1 ≠ it := fun x hx => by
  simp only [List.mem_cons] at hx
  rcases hx with rfl | rfl | hx
  · exact off _ (.head _)
  · exact off _ (.tail _ (.head _))
  · exact off x (.tail _ (.tail _ (.tail _ hx)))
theorem nodup_drop {D l p : Addr} {o ol op : Obj} {tl : Ledger} (nd : (((D, o) :: (l, ol) :: (p, op) :: tl : Ledger).map (·.1)).Nodup) : (((D, o) :: (l, ol) :: tl : Ledger).map (·.1)).Nodup := by
  simp only [List.map_cons, List.nodup_cons, List.mem_cons, not_or, List.mem_map, not_exists, not_and] at nd ⊢
  exact ⟨⟨nd.1.1, nd.1.2.2⟩, nd.2.1.2, nd.2.2.2⟩
theorem bang2 {b : Octs} {x : Bool} (h : (List.take ([37, 33] : Octs).length b == [37, 33]) = x) : isBang b = x := h
theorem plus2 {b : Octs} {x : Bool} (h : (List.take ([37, 37, 43] : Octs).length b == [37, 37, 43]) = x) : isPlus b = x := h
theorem cmt2 {b : Octs} {x : Bool} (h : (List.take ([37, 37] : Octs).length b == [37, 37]) = x) : isCmt b = x := h
local macro_rules | `(tactic| walk_at "call ref") => `(tactic| ((with_reducible show wpAny _ _ (call (Value.ref 35) [Value.bytes (List.toArray _) _]) _ _ _); (with_reducible rename News _ _ _ _ => kN); (with_reducible rename Fr _ _ _ _ => kF); (refine use_pair (cut_ok (by (walk_at "own mbase")) (by omega) _ _ (by tb_start)) kF kN ?_); clear kF kN; intro _ _ _ _ _ _ _ _))
noncomputable abbrev rowsMap (b : Octs) (t : Tok) (D : Addr) (mv mw ml mk : Option Value) : Str → Option Value := fun y =>
  if y = Str.ofString "value" then mv else if y = Str.ofString "keyword" then mw else if y = Str.ofString "line" then ml else if y = Str.ofString "number" then mk else if y = Str.ofString "found" then some (.ref D) else List.lookup y ([(Str.ofString "octets", Value.bytes b.toArray t)] : List (Str × Value)).reverse

noncomputable abbrev RowsJ (b : Octs) (t : Tok) (l : Addr) (vs : List Value) (i : Nat) (m : Str → Option Value) (led : Ledger) : Prop := ∃ D us rs tl n nl mv mw ml mk, m = rowsMap b t D mv mw ml mk ∧ led = (D, LO us n) :: (l, LO vs nl) :: tl ∧ BytesAre vs (scanF [] b) ∧ PairsL tl us rs ∧ (led.map (·.1)).Nodup ∧ us.length ≤ i ∧ rs = (toldGo 0 [] ((scanF [] b).take i)).map R1
theorem rows_fm {b : Octs} {t : Tok} {D : Addr} {mv mw ml mk u v : Option Value} : ∀ y, (if y = Str.ofString "line" then u else if y = Str.ofString "number" then v else rowsMap b t D mv mw ml mk y) = rowsMap b t D mv mw u v y := fun y => by
  unfold rowsMap
  ((refine Decidable.byCases (p := y = Str.ofString "line") (fun hh => by subst hh; rfl) (fun hh => ?_); simp only [ite_sk hh]; try clear hh))
  ((refine Decidable.byCases (p := y = Str.ofString "number") (fun hh => by subst hh; rfl) (fun hh => ?_); simp only [ite_sk hh]; try clear hh))
theorem rows_ok {w mean mg mb} {s : Shared} (B : Base w mean mg mb s.heap) {dp un : Nat} {fr} (hd : dp < 700) (hu : un < 4000) (b : Octs) (t : Tok) (hb : b.length ≤ 900) :
    wpC (MW w) (arnd dp un fr) (call (.ref 42) [.bytes b.toArray t]) (Ends s fun v h => NewPairs s.heap h v (toldL (scanF [] b))) never s := by
  refine enter_c [("octets", .bytes b.toArray t)] B rfl rfl (by omega) rfl rfl fun fr' h₀ L h₁ tk ⟨X, T⟩ F N kk => ?_
  refine postC_gen fun QQ hQQ => ?_
  have hsc := scan_bound b
  refine execsC_cons (wpC_of ?_)
  k_steps
  rename Addr => D0
  refine execsC_cons ?_
  refine For_enumC (h₀ := h₀) (J := RowsJ b t) rfl rfl rfl rfl (fun l vs i m led h hJ F' N' => ?_) ?_ ?_ ?_
  · obtain ⟨D, us, rs, tl, n, nl, mv, mw, ml, mk, rfl, rfl, _⟩ := hJ
    exact ⟨_, (N' _ (.tail _ (.head _))).1, rfl, _, rfl⟩
  · refine callNameC ?_
    k_steps
    (try (any_goals first | exact (0 : Nat) | exact (Str.ofString "") | exact Value.none))
    refine callWithC_machine rfl (keeper_type _) ?_
    show wpC _ _ (spliced [(false, eval _ _)]) _ _ _
    refine splicedC_cons (callNameC ?_)
    k_steps
    rename Fr _ _ _ _ => F2
    rename News _ _ _ _ => N2
    refine callDefC (F2.keep _ _ (X 28 _ rfl)) rfl rfl ?_
    show wpC _ _ (spliced [(false, eval _ _)]) _ _ _
    refine splicedC_cons (wpC_of ?_)
    k_steps
    rename Fr _ _ _ _ => F2
    rename News _ _ _ _ => N2
    refine splicedC_nil ⟨F2.keep _ _ (X 28 _ rfl), ?_⟩
    refine use_call_c (scan_ok (by exact (Base.mk X T).keeps F2.keep) (by omega) (by omega) b t (by omega)) F2 N2 ?_
    intro v h3 tk3 F3 N3 e3 hv
    obtain ⟨l, vs, nl, rfl, hg, hb2, hn⟩ := hv
    have N4 := news_join F2 e3 N3 hg hn
    have hne := fresh_ne N2 hn
    refine splicedC_nil ?_
    clear F2 N2 N3
    refine wpC_of (wpAny_mono (enum_startL (J := RowsJ b t l vs 0) ⟨_, hg, rfl, _, rfl⟩ F3 (led := [(D0, LO [] 0), (l, LO vs nl)]) ?nw (fun h => ⟨_, rfl⟩) ⟨_, [], [], [], 0, nl, none, none, none, none, funext fun y => ?fm, rfl, hb2, .nil, ?nd, Nat.le_refl _, rfl⟩) (fun x s₁ q => ?_) fun _ _ x => x.elim)
    case nw =>
      intro x hx
      rcases List.mem_cons.mp hx with rfl | hx
      · exact N4 _ (.tail _ (.head _))
      · exact N4 _ (by rw [List.mem_singleton.mp hx]; exact .head _)
    case fm =>
      unfold rowsMap
      ((refine Decidable.byCases (p := y = Str.ofString "value") (fun hh => by subst hh; rfl) (fun hh => ?_); simp only [ite_sk hh]; try clear hh))
      ((refine Decidable.byCases (p := y = Str.ofString "keyword") (fun hh => by subst hh; rfl) (fun hh => ?_); simp only [ite_sk hh]; try clear hh))
      ((refine Decidable.byCases (p := y = Str.ofString "line") (fun hh => by subst hh; rfl) (fun hh => ?_); simp only [ite_sk hh]; try clear hh))
      ((refine Decidable.byCases (p := y = Str.ofString "number") (fun hh => by subst hh; rfl) (fun hh => ?_); simp only [ite_sk hh]; try clear hh))
    case nd => simpa using hne _ (.head _)
    obtain ⟨e, it, h, tk, m, led, q⟩ := q
    exact ⟨l, vs, e, it, h, tk, m, led, q⟩
  · rintro l vs i v m led h tk e it oe oi ti hv ⟨D, us, rs, tl, n, nl, mv, mw, ml, mk, rfl, rfl, hb2, hP0, hnd, hul, hgo⟩ F0 N off
    obtain ⟨b1, t1, rfl, hbi⟩ := hb2.get hv
    have hbl : b1.length ≤ 900 := Nat.le_trans (hsc.2 b1 (List.mem_of_getElem? hbi)) hb
    have hst : (stripL [32, 9] (cutL b1 (some 3) none)).length ≤ 900 := Nat.le_trans (stripL_length _ _) (Nat.le_trans (cutL_length _ _ _) hbl)
    have hib : i < (scanF [] b).length := (List.getElem?_eq_some_iff.mp hbi).1
    have hrs0 : rs.length = (toldGo 0 [] ((scanF [] b).take i)).length := by rw [hgo, List.length_map]
    have F := fr_ext F0 (rows_fm (b := b) (t := t) (D := D) (mv := mv) (mw := mw) (ml := ml) (mk := mk) (u := some (.bytes b1.toArray t1)) (v := some (.int (i : Int) ti)))
    clear F0
    refine post_gen fun QT hQT => ?_
    refine if_mid (RMid s h₀ L (rowsMap b t D mv mw (some (.bytes b1.toArray t1)) (some (.int (i : Int) ti))) ((e, oe) :: (it, oi) :: (D, LO us n) :: (l, LO vs nl) :: tl) (decide (i = 0) && isBang b1)) ?_ ?_ ?_
    · k_steps
      all_goals (rename Fr _ _ _ _ => F')
      all_goals (rename News _ _ _ _ => N')
      all_goals first
        | exact hold_out ⟨_, _, rfl, F', N', c_off (by assumption)⟩
        | exact hold_out ⟨_, _, rfl, F', N', c_on (by assumption) (by assumption)⟩
    · rintro s' ⟨h', tk', rfl, F', N', hc⟩
      obtain ⟨h0, hB⟩ := c_true hc
      clear F N
      k_steps
      (try (any_goals first | exact (0 : Nat) | exact (Str.ofString "") | exact Value.none))
      (rename Fr _ _ _ _ => F')
      (rename News _ _ _ _ => N')
      (repeat (rename _ ∧ _ => hh; obtain ⟨_, _⟩ := hh))
      have hs := ts_bang (gs := toldGo 0 [] ((scanF [] b).take i)) h0 hB
      refine hold_out (append_row (tl := tl) F' N' (by k_mem) (by k_mem) (by k_mem) (by k_mem) (by k_mem) (by ((intro x hx; repeat (first | exact hx | (apply List.mem_cons_of_mem))))) (Ne.symm (off _ (.head _)).1) (Ne.symm (off _ (.head _)).2) (tl_off hnd).1 (by exact Nat.ne_of_gt (by assumption)) (tl_off hnd).2 (by omega) ?_)
      clear F' N'
      intro _ F' N'
      k_steps
      (rename Fr _ _ _ _ => F'); (rename News _ _ _ _ => N')
      refine hQT .next _ ?_
      exact ⟨_, _, _, _, rfl, F', N', off_row off (by exact Nat.ne_of_lt (by assumption)) (by exact Nat.ne_of_lt (by assumption)), _, _, _, _, _, _, _, _, _, _, rfl, rfl, hb2, .snoc hP0, nodup_row hnd (by exact Nat.ne_of_lt (by assumption)) (by exact Nat.ne_of_lt (by assumption)) (by exact fun x hx => Nat.ne_of_lt ((by ((refine allLt_mem _ ?_; repeat' (first | exact trivial | assumption | constructor))) : ∀ x ∈ _, x.1 < _) x hx)), len1 hul, by rw [← told_next hbi rfl, hs, R1_snoc, ← hgo]⟩
    · rintro s' ⟨h', tk', rfl, F', N', hc⟩
      have hb0 := c_false hc
      clear F N
      refine if_mid (RMid s h₀ L (rowsMap b t D mv mw (some (.bytes b1.toArray t1)) (some (.int (i : Int) ti))) ((e, oe) :: (it, oi) :: (D, LO us n) :: (l, LO vs nl) :: tl) (isPlus b1 && !(us.length == 0))) ?_ ?_ ?_
      · k_steps
        all_goals (rename Fr _ _ _ _ => F')
        all_goals (rename News _ _ _ _ => N')
        all_goals first
          | exact hold_out ⟨_, _, rfl, F', (by intro x hx; exact N' x (by ((repeat (first | exact hx | (apply List.mem_cons_of_mem)))))), d_off (by assumption)⟩
          | exact hold_out ⟨_, _, rfl, F', (by intro x hx; exact N' x (by ((repeat (first | exact hx | (apply List.mem_cons_of_mem)))))), d_not (by assumption) (by assumption)⟩
      · rintro s' ⟨h', tk', rfl, F'', N'', hc⟩
        obtain ⟨hP, hne⟩ := d_true hc
        clear F' N'
        cases hP0 with
        | nil => exact absurd rfl hne
        | @snoc tl us rs p a c t2 t3 hP0 =>
          have hlast : (us ++ [Value.ref p]).getLast? = some (.ref p) := by simp
          obtain ⟨gs', ys, hgs, rfl, hcw⟩ := last_group hgo
          have htg := told_pre (gs := gs' ++ [(a, ys)]) (i := i) (fun x hx => Nat.le_trans (hsc.2 x hx) (by omega)) hgs.symm
          obtain ⟨g1, g2, g3, g4⟩ := htg (a, ys) (by simp)
          simp only at g1 g2 g3 g4
          have hcl : c.length ≤ 1000000 := by rw [hcw]; exact Nat.le_trans (wholeOf_bound g3) (by omega)
          k_steps
          (try (any_goals first | exact (0 : Nat) | exact (Str.ofString "") | exact Value.none))
          (rename Fr _ _ _ _ => F')
          (rename News _ _ _ _ => N')
          (repeat (rename _ ∧ _ => hh; obtain ⟨_, _⟩ := hh))
          have hs := ts_plus (i := i) (b := b1) (gs := gs') (kw := a) (bs := ys) hb0 hP
          refine set_row (tl := tl) F' N' (by k_mem) (by k_mem) (by k_mem) (by k_mem) (by k_mem) (by ((intro x hx; repeat (first | exact hx | (apply List.mem_cons_of_mem))))) (Ne.symm (off _ (.head _)).1) (Ne.symm (off _ (.head _)).2) (tl_off hnd).1 (by exact Nat.ne_of_gt (by assumption)) (fun x hx => (tl_off hnd).2 x (.tail _ hx)) ?_
          clear F' N'
          intro _ _ F' N'
          k_steps
          (try (any_goals first | exact (0 : Nat) | exact (Str.ofString "") | exact Value.none))
          (rename Fr _ _ _ _ => F'); (rename News _ _ _ _ => N')
          refine hQT .next _ ?_
          refine ⟨_, _, rowsMap b t D ?_ ?_ ?_ ?_, _, rfl, fr_ext F' fun y => ?fm, N', off_row (off_drop off) (by exact Nat.ne_of_lt (by assumption)) (by exact Nat.ne_of_lt (by assumption)), D, _, _, _, _, _, _, _, _, _, rfl, rfl, hb2, .snoc hP0, nodup_row (nodup_drop hnd) (by exact Nat.ne_of_lt (by assumption)) (by exact Nat.ne_of_lt (by assumption)) (by exact fun x hx => Nat.ne_of_lt ((by ((refine allLt_mem _ ?_; repeat' (first | exact trivial | assumption | constructor))) : ∀ x ∈ _, x.1 < _) x hx)), by (simp only [List.length_append, List.length_cons, List.length_nil] at hul ⊢; omega), by have z := told_next hbi hgs.symm; rw [hs] at z; rw [← z, List.map_append, hcw, ← wholeOf_snoc g1]; rfl⟩
          case fm =>
            (unfold rowsMap)
            (((refine Decidable.byCases (p := y = Str.ofString "value") (fun hh => by subst hh; rfl) (fun hh => ?_); simp only [ite_sk hh]; try clear hh))); (((refine Decidable.byCases (p := y = Str.ofString "keyword") (fun hh => by subst hh; rfl) (fun hh => ?_); simp only [ite_sk hh]; try clear hh))); (((refine Decidable.byCases (p := y = Str.ofString "line") (fun hh => by subst hh; rfl) (fun hh => ?_); simp only [ite_sk hh]; try clear hh)))
      · rintro s' ⟨h', tk', rfl, F'', N'', hc⟩
        have hp0 := d_false hrs0 hP0 hc
        clear F' N'
        refine if_mid (RMid s h₀ L (rowsMap b t D mv mw (some (.bytes b1.toArray t1)) (some (.int (i : Int) ti))) ((e, oe) :: (it, oi) :: (D, LO us n) :: (l, LO vs nl) :: tl) (isCmt b1 && !isPlus b1)) ?_ ?_ ?_
        · k_steps
          all_goals (rename Fr _ _ _ _ => F')
          all_goals (rename News _ _ _ _ => N')
          all_goals first
            | exact hold_out ⟨_, _, rfl, F', N', d_off (by assumption)⟩
            | exact hold_out ⟨_, _, rfl, F', N', d_not (by assumption) (by assumption)⟩
        · rintro s' ⟨h', tk', rfl, F', N', hc⟩
          obtain ⟨hC, hP⟩ := e_true hc
          clear F'' N''
          k_steps
          (try (any_goals first | exact (0 : Nat) | exact (Str.ofString "") | exact Value.none))
          rename (∀ q : Addr × Obj, q ∈ (_ : List (Addr × Obj)) → q.1 ≠ _) => hq
          (rename Fr _ _ _ _ => F')
          (rename News _ _ _ _ => N')
          have hs := ts_cmt (i := i) (b := b1) (gs := toldGo 0 [] ((scanF [] b).take i)) hb0 hC hP
          refine hold_out (append_row (tl := tl) F' N' (by k_mem) (by k_mem) (by k_mem) (by k_mem) (by k_mem) (by ((intro x hx; repeat (first | exact hx | (apply List.mem_cons_of_mem))))) (Ne.symm (off _ (.head _)).1) (Ne.symm (off _ (.head _)).2) (tl_off hnd).1 (Ne.symm (hq (D, _) (by k_mem))) (tl_off hnd).2 (by omega) ?_)
          clear F' N'
          intro _ F' N'
          k_steps
          (rename Fr _ _ _ _ => F'); (rename News _ _ _ _ => N')
          refine hQT .next _ ?_
          exact ⟨_, _, _, _, rfl, F', N', off_row off (hq (e, _) (by k_mem)) (hq (it, _) (by k_mem)), _, _, _, _, _, _, _, _, _, _, rfl, rfl, hb2, .snoc hP0, nodup_row hnd (hq (D, _) (by k_mem)) (hq (l, _) (by k_mem)) (by intro x hx; exact hq x (by ((repeat (first | exact hx | (apply List.mem_cons_of_mem)))))), len1 hul, by rw [← told_next hbi rfl, hs, R1_snoc, ← hgo]⟩
        · rintro s' ⟨h', tk', rfl, F', N', hc⟩
          clear F'' N''
          have hs := ts_skip (i := i) (b := b1) (gs := toldGo 0 [] ((scanF [] b).take i)) hb0 hp0 (e_false hc)
          refine wpAny_execs_nil ?_
          refine hQT .next _ ?_
          exact ⟨_, _, _, _, rfl, F', N', off, _, _, _, _, _, _, _, _, _, _, rfl, rfl, hb2, hP0, hnd, Nat.le_succ_of_le hul, by rw [← told_next hbi rfl, hs]; exact hgo⟩
  · rintro l vs m led h tk ⟨D, us, rs, tl, n, nl, mv, mw, ml, mk, rfl, rfl, hb2, hP, hnd, hul, hgo⟩ F' N'
    refine wpC_of ?_
    k_steps
    rename Fr _ _ _ _ => F'
    rename News _ _ _ _ => N'
    rw [List.take_of_length_le (by rw [hb2.length]; exact Nat.le_refl _)] at hgo
    subst hgo
    refine hQQ _ _ ?_
    exact ⟨_, _, rfl, F'.keep, _, _, _, _, rfl, (N' _ (.head _)).1, hP, none_up kk (N' _ (.head _)).2.2, fun x hx => ⟨(N' x (.tail _ (.tail _ hx))).1, none_up kk (N' x (.tail _ (.tail _ hx))).2.2⟩⟩

/-! F10 -/
theorem use_lines {w : World} {A : Around} {s : Shared} {f : Addr} {vs : List Value} {Q : Value → Shared → Prop} {E : Value → Shared → Prop} {h₀ : Heap} {L : Addr} {m : Str → Option Value} {led : Ledger} {bs : List Octs}
    (spec : wpAny (MW w) A (call (.ref f) vs) (Ends s fun v h => NewLines s.heap h v bs) never s) (F : Fr h₀ L s.heap m) (N : News h₀ L s.heap led)
    (h : ∀ p us n h' tk, Fr h₀ L h' m → News h₀ L h' ((p, LO us n) :: led) → BytesAre us bs → (∀ q ∈ led, q.1 ≠ p) → Q (.ref p) { s with heap := h', toks := tk }) : wpAny (MW w) A (call (.ref f) vs) Q E s := by
  refine use_call spec F N fun v h' tk F' N' e P => ?_
  obtain ⟨p, us, n, rfl, hg, hb, hn⟩ := P
  exact h p us n h' tk F' (news_join F e N' hg hn) hb (fresh_ne N hn)
theorem lines_as {w : World} {A : Around} {s : Shared} {vs : List Value} {b : Octs} (spec : wpAny (MW w) A (call (.ref 69) vs) (Ends s fun v h => NewLines s.heap h v (lawLines b)) never s) : wpAny (MW w) A (call (.ref 69) vs) (Ends s fun v h => NewLines s.heap h v (scanF [] b)) never s := by
  rw [lawLines_is] at spec; exact spec
theorem ne_same {prog : Program} {w : World} {A : Around} {E : Value → Shared → Prop} {s : Shared} {l m : Addr} {vs us : List Value} {bs : List Octs} {Q : Value → Shared → Prop} (hl : s.heap.IsList l vs.toArray) (hm : s.heap.IsList m us.toArray) (hb : BytesAre vs bs) (hc : BytesAre us bs) (hu : A.units < cLine) (h : Q (.bool false) s) :
    wpAny (model prog w) A (compareOp .NotEq (.ref l) (.ref m)) Q E s := ne_bytesLists hl hm hb hc hu (by
  rw [show (!(bs == bs)) = false by simp]; exact h)
theorem ne_pair_same {prog : Program} {w : World} {A : Around} {E : Value → Shared → Prop} {s : Shared} {h₀ : Heap} {L p q : Addr} {led : Ledger} {r : Octs × Octs} {t₁ t₂ t₃ t₄ : Tok} {Q : Value → Shared → Prop} (hu : A.units < cLine) (N : News h₀ L s.heap led) (hp : (p, tupO [.bytes r.1.toArray t₁, .bytes r.2.toArray t₂]) ∈ led) (hq : (q, tupO [.bytes r.1.toArray t₃, .bytes r.2.toArray t₄]) ∈ led) (h : Q (.bool false) s) :
    wpAny (model prog w) A (compareOp .NotEq (.ref p) (.ref q)) Q E s := ne_pairs (r := r) (q := r) hu ⟨_, _, _, rfl, (N _ hp).1⟩ ⟨_, _, _, rfl, (N _ hq).1⟩ (by
  rw [show (!(r == r)) = false by simp]; exact h)
local macro_rules | `(tactic| walk_at "call ref") => `(tactic| ((with_reducible show wpAny _ _ (call (Value.ref 69) [Value.bytes (List.toArray _) _]) _ _ _); (with_reducible rename News _ _ _ _ => kN); (with_reducible rename Fr _ _ _ _ => kF); (refine use_lines (lines_as (lines_ok (by (walk_at "own mbase")) (by with_reducible assumption) _ _ (by tb_start))) kF kN ?_); clear kF kN; intro _ _ _ _ _ _ _ _ _))
local macro_rules | `(tactic| walk_at "compareOp NotEq ref ref") => `(tactic| ((with_reducible rename News _ _ _ _ => kN); (with_reducible rename Fr _ _ _ _ => kF); k_dflt (first
  | (refine ne_pair_same (by (walk_at "own munits")) kN (by k_mem) (by k_mem) ?_)
  | (refine ne_same (by (walk_at "own mlist")) (by (walk_at "own mlist")) (by assumption) (by assumption) (by (walk_at "own munits")) ?_))))
theorem news_one {h₀ h : Heap} {L p : Addr} {o : Obj} {led : Ledger} (N : News h₀ L h led) (hm : (p, o) ∈ led) : News h₀ L h [(p, o)] := fun x hx => by
  obtain rfl := List.mem_singleton.mp hx
  exact N _ hm
theorem For_list3 {prog : Program} {w : World} {A : Around} {s : Shared} {env : Env} {target iter : Expr} {body : List Stmt} {pos : Pos} {Q : Flow → Shared → Prop} {h₀ : Heap} {L : Addr} (J : Addr → List Value → Nat → (Str → Option Value) → List (Addr × Obj) → Prop)
    (hh : A.handled = none)
    (hl : ∀ l vs i m led h, J l vs i m led → Fr h₀ L h m → News h₀ L h led → h.IsList l vs.toArray ∧ l ≠ L)
    (hiter : wpAny (model prog w) A (eval iter env) (fun v s₁ => HoldW (∃ l vs, v = .ref l ∧ (∃ h tk, s₁ = { s with heap := h, toks := tk }) ∧ ∃ m led, Fr h₀ L s₁.heap m ∧ News h₀ L s₁.heap led ∧ J l vs 0 m led)) never s)
    (turn : ∀ l vs i v m led h tk it io, vs[i]? = some v → J l vs i m led → Fr h₀ L h m → News h₀ L h ((it, io) :: led) → (∀ p ∈ led, p.1 ≠ it) →
      wpAny (model prog w) A (assign target env v) (fun _ s₂ => wpAny (model prog w) A (execs body env) (TurnPost' h₀ L s it io (J l vs (i + 1)) Q) never s₂) never { s with heap := h, toks := tk })
    (done : ∀ l vs m led h tk, J l vs vs.length m led → Fr h₀ L h m → News h₀ L h led → Q .next { s with heap := h, toks := tk })
    (hs : ∀ x, foldedSetIterable iter env x = pure x := by intro _; rfl) :
    wpAny (model prog w) A (exec (.For target iter body [] pos) env) Q never s := For_list2 J hh hl hiter turn done hs
noncomputable abbrev lrMap (b : Octs) (t : Tok) (mv mw ml : Option Value) : Str → Option Value := fun y =>
  if y = Str.ofString "value" then mv else if y = Str.ofString "keyword" then mw else if y = Str.ofString "line" then ml else List.lookup y ([(Str.ofString "octets", Value.bytes b.toArray t)] : List (Str × Value)).reverse

theorem lright_ok {w mean mg mb} {s : Shared} (B : Base w mean mg mb s.heap) {dp un : Nat} {fr} (hd : dp < 600) (hu : un < 3000) (b : Octs) (t : Tok) (hb : b.length ≤ 900) :
    wpC (MW w) (arnd dp un fr) (call (.ref 101) [.bytes b.toArray t]) (Ends s fun v _ => v = .bool true) never s := by
  refine enter_c [("octets", .bytes b.toArray t)] B rfl rfl (by omega) rfl rfl fun fr' h₀ L h₁ tk ⟨X, T⟩ F N kk => ?_
  refine postC_gen fun QQ hQQ => ?_
  have hsc := scan_bound b
  have hd9 : dp + 1 < 900 := by omega
  refine execsC_cons (ifC (isTrueCmpC (evalCompC (callNameC ?_)) rfl))
  k_steps
  rename Fr _ _ _ _ => F1
  refine callDefC (F1.keep _ _ (X 28 _ rfl)) rfl rfl ?_
  show wpC _ _ (spliced [(false, eval _ _)]) _ _ _
  refine splicedC_cons (wpC_of ?_)
  k_steps
  rename Fr _ _ _ _ => F2
  rename News _ _ _ _ => N2
  refine splicedC_nil ⟨F2.keep _ _ (X 28 _ rfl), ?_⟩
  refine use_call_c (scan_ok (by exact (Base.mk X T).keeps F2.keep) (by omega) (by omega) b t (by omega)) F2 N2 ?_
  intro v h3 tk3 F3 N3 e3 hv
  obtain ⟨l, vs, nl, rfl, hg, hb2, hn⟩ := hv
  have N4 := news_join F2 e3 N3 hg hn
  clear F2 N2 N3
  refine core_list (J := fun i ys led => led = [] ∧ BytesAre ys ((scanF [] b).take i)) (vs := vs) ⟨_, hg, rfl, _, rfl⟩ rfl rfl rfl rfl (by decide) (by rw [hb2.length]; omega) ⟨rfl, .nil⟩ (fun H2 => ?turn) ?fin
  case turn =>
    rintro i v ys led h tk m' oI C D hv ⟨rfl, hys⟩ F' N' off
    obtain ⟨x, tx, rfl, hxi⟩ := hb2.get hv
    refine assign_one F' N' rfl rfl fun h' tk' G M => ?_
    refine wpAny_tests_nil ?_
    have X' := X.keeps F3.keep
    have T' := T.keeps F3.keep
    clear F3 N4 X T F' N' hg
    k_steps
    (try (any_goals first | exact (0 : Nat) | exact (Str.ofString "") | exact Value.none))
    exact ⟨_, _, _, [], rfl, by assumption, M, (fun p hp => nomatch hp), rfl, by rw [List.take_add_one, hxi]; exact hys.append (.one _ _)⟩
  case fin =>
    rintro C D ys led h tk m' ⟨rfl, hys⟩ F' N' off
    refine post_none F3 N4 F' N' off ?_
    clear F3 N4 F' N' off hg
    intro h'' F N off
    rw [List.take_of_length_le (by rw [hb2.length]; exact Nat.le_refl _)] at hys
    k_steps
    (try (any_goals first | exact (0 : Nat) | exact (Str.ofString "") | exact Value.none))
    · rename false = true => q
      exact nomatch q
    · refine execsC_nil ?_
      rename Fr _ _ _ _ => F1
      clear hys
      refine execsC_cons (wpC_of ?_)
      refine For_list3 (J := fun l' us i m led => ∃ n mv mw ml, led = [(l', LO us n)] ∧ m = lrMap b t mv mw ml ∧ BytesAre us (scanF [] b)) (L := L) (h₀ := h₀) rfl (fun l' us i m led h hJ F' N' => ?_) ?_ ?_ ?_
      · obtain ⟨n, mv, mw, ml, rfl, rfl, _⟩ := hJ
        exact ⟨⟨_, (N' _ (.head _)).1, rfl, _, rfl⟩, (N' _ (.head _)).2.1⟩
      · k_steps
        (rename Fr _ _ _ _ => F')
        (rename News _ _ _ _ => N')
        refine hold_out ⟨_, _, rfl, ⟨_, _, rfl⟩, lrMap b t none none none, [(_, LO _ _)], fr_ext F' fun y => ?_, news_one N' (.head _), _, _, _, _, rfl, rfl, by assumption⟩
        (unfold lrMap)
        (((refine Decidable.byCases (p := y = Str.ofString "value") (fun hh => by subst hh; rfl) (fun hh => ?_); simp only [ite_sk hh]; try clear hh))); (((refine Decidable.byCases (p := y = Str.ofString "keyword") (fun hh => by subst hh; rfl) (fun hh => ?_); simp only [ite_sk hh]; try clear hh))); (((refine Decidable.byCases (p := y = Str.ofString "line") (fun hh => by subst hh; rfl) (fun hh => ?_); simp only [ite_sk hh]; try clear hh)))
      · rintro l' us i v m led h tk it io hv ⟨n, mv, mw, ml, rfl, rfl, hus⟩ F' N' off2
        obtain ⟨x, tx, rfl, hxi⟩ := hus.get hv
        have hxl := hsc.2 x (List.mem_of_getElem? hxi)
        refine turn_gen fun Q2 hQ2 => ?_
        refine assign_one F' N' rfl rfl fun h' tk' G M => ?_
        clear F' N' F1
        k_steps
        (try (any_goals first | exact (0 : Nat) | exact (Str.ofString "") | exact Value.none))
        · (rename Fr _ _ _ _ => F')
          (rename News _ _ _ _ => N')
          refine hQ2 _ ?_
          refine ⟨_, _, lrMap b t ?_ ?_ ?_, [(l', LO us n)], rfl, fr_ext F' fun y => ?fm, fun x hx => ?nw, off2, n, _, _, _, rfl, rfl, hus⟩
          case nw => (simp only [List.mem_cons, List.not_mem_nil, or_false] at hx; rcases hx with rfl | rfl; exact N' _ (by k_mem); exact N' _ (by k_mem))
          case fm => ((unfold lrMap); (((refine Decidable.byCases (p := y = Str.ofString "value") (fun hh => by subst hh; rfl) (fun hh => ?_); simp only [ite_sk hh]; try clear hh))); (((refine Decidable.byCases (p := y = Str.ofString "keyword") (fun hh => by subst hh; rfl) (fun hh => ?_); simp only [ite_sk hh]; try clear hh))); (((refine Decidable.byCases (p := y = Str.ofString "line") (fun hh => by subst hh; rfl) (fun hh => ?_); simp only [ite_sk hh]; try clear hh))))
        · (rename Fr _ _ _ _ => F')
          (rename News _ _ _ _ => N')
          refine hQ2 _ ?_
          refine ⟨_, _, lrMap b t ?_ ?_ ?_, [(l', LO us n)], rfl, fr_ext F' fun y => ?fm, fun x hx => ?nw, off2, n, _, _, _, rfl, rfl, hus⟩
          case nw => (simp only [List.mem_cons, List.not_mem_nil, or_false] at hx; rcases hx with rfl | rfl; exact N' _ (by k_mem); exact N' _ (by k_mem))
          case fm => ((unfold lrMap); (((refine Decidable.byCases (p := y = Str.ofString "value") (fun hh => by subst hh; rfl) (fun hh => ?_); simp only [ite_sk hh]; try clear hh))); (((refine Decidable.byCases (p := y = Str.ofString "keyword") (fun hh => by subst hh; rfl) (fun hh => ?_); simp only [ite_sk hh]; try clear hh))); (((refine Decidable.byCases (p := y = Str.ofString "line") (fun hh => by subst hh; rfl) (fun hh => ?_); simp only [ite_sk hh]; try clear hh))))
      · rintro l' us m led h tk ⟨n, mv, mw, ml, rfl, rfl, hus⟩ F' N'
        refine execsC_cons (wpC_of ?_)
        clear F1
        k_steps
        rename Fr _ _ _ _ => F'
        refine hQQ _ _ ?_
        exact ⟨_, _, rfl, F'.keep, rfl⟩

/-! F11 -/
theorem use_pairs {w : World} {A : Around} {s : Shared} {f : Addr} {vs : List Value} {Q : Value → Shared → Prop} {E : Value → Shared → Prop} {h₀ : Heap} {L : Addr} {m : Str → Option Value} {led : Ledger} {rs : List (Octs × Octs)}
    (spec : wpAny (MW w) A (call (.ref f) vs) (Ends s fun v h => NewPairs s.heap h v rs) never s) (F : Fr h₀ L s.heap m) (N : News h₀ L s.heap led)
    (h : ∀ p us n tl h' tk, Fr h₀ L h' m → News h₀ L h' ((p, LO us n) :: (led ++ tl)) → PairsL tl us rs → Q (.ref p) { s with heap := h', toks := tk }) : wpAny (MW w) A (call (.ref f) vs) Q E s := by
  refine use_call spec F N fun v h' tk F' N' e P => ?_
  obtain ⟨p, us, n, tl, rfl, hg, hb, hn, ht⟩ := P
  refine h p us n tl h' tk F' (fun x hx => ?_) hb
  rcases List.mem_cons.mp hx with rfl | hx
  · exact news_join F e N' hg hn _ (.head _)
  · rcases List.mem_append.mp hx with hx | hx
    · exact N' x hx
    · exact news_join F e N' (o := x.2) (p := x.1) (ht x hx).1 (ht x hx).2 _ (.head _)
theorem use_pairs_c {w : World} {A : Around} {s : Shared} {f : Addr} {vs : List Value} {Q : Value → Shared → Prop} {E : Value → Shared → Prop} {h₀ : Heap} {L : Addr} {m : Str → Option Value} {led : Ledger} {rs : List (Octs × Octs)}
    (spec : wpC (MW w) A (call (.ref f) vs) (Ends s fun v h => NewPairs s.heap h v rs) never s) (F : Fr h₀ L s.heap m) (N : News h₀ L s.heap led)
    (h : ∀ p us n tl h' tk, Fr h₀ L h' m → News h₀ L h' ((p, LO us n) :: (led ++ tl)) → PairsL tl us rs → Q (.ref p) { s with heap := h', toks := tk }) : wpC (MW w) A (call (.ref f) vs) Q E s := by
  refine use_call_c spec F N fun v h' tk F' N' e P => ?_
  obtain ⟨p, us, n, tl, rfl, hg, hb, hn, ht⟩ := P
  refine h p us n tl h' tk F' (fun x hx => ?_) hb
  rcases List.mem_cons.mp hx with rfl | hx
  · exact news_join F e N' hg hn _ (.head _)
  · rcases List.mem_append.mp hx with hx | hx
    · exact N' x hx
    · exact news_join F e N' (o := x.2) (p := x.1) (ht x hx).1 (ht x hx).2 _ (.head _)
theorem toldStep_length (i : Nat) (gs : List (Octs × List Octs)) (b : Octs) : (toldStep i gs b).length ≤ gs.length + 1 := by
  unfold toldStep
  split
  · simp
  · split
    · rename_i hh
      rcases List.eq_nil_or_concat gs with e | ⟨r, g, rfl⟩
      · exact absurd e hh.2
      · obtain ⟨kw, ys⟩ := g
        rw [List.concat_eq_append, grow_snoc]; simp
    · split
      · simp
      · omega
theorem toldGo_length : ∀ (bs : List Octs) (i : Nat) (gs), (toldGo i gs bs).length ≤ gs.length + bs.length
  | [], i, gs => by simp [toldGo]
  | b :: bs, i, gs => by
    have h1 := toldGo_length bs (i + 1) (toldStep i gs b)
    have h2 := toldStep_length i gs b
    show (toldGo (i + 1) (toldStep i gs b) bs).length ≤ _
    rw [List.length_cons]; omega
theorem toldL_length (bs : List Octs) : (toldL bs).length ≤ bs.length := by
  have := toldGo_length bs 0 []
  unfold toldL
  rw [List.length_map]
  simpa using this
theorem ends_as {w : World} {A : Around} {s : Shared} {vs : List Value} {bg en : Octs} {rs : List (Octs × Octs)} (spec : wpAny (MW w) A (call (.ref 54) vs) (Ends s fun v _ => v = .bool (endGo bg en 0 rs)) never s) : wpAny (MW w) A (call (.ref 54) vs) (Ends s fun v _ => v = .bool (pairsOf bg en rs)) never s := by
  rw [endGo_pairs] at spec; exact spec
theorem told_as {w : World} {A : Around} {s : Shared} {b : Octs} {vs : List Value} {rs : List (Octs × Octs)} (hrs : rs = toldL (scanF [] b)) (spec : wpAny (MW w) A (call (.ref 81) vs) (Ends s fun v h => NewPairs s.heap h v (toldL (scanF [] b))) never s) : wpAny (MW w) A (call (.ref 81) vs) (Ends s fun v h => NewPairs s.heap h v rs) never s := hrs ▸ spec
theorem ne_pairs_same {prog : Program} {w : World} {A : Around} {E : Value → Shared → Prop} {s : Shared} {h₀ : Heap} {L l m : Addr} {led tl₁ tl₂ : Ledger} {vs us : List Value} {rs : List (Octs × Octs)} {Q : Value → Shared → Prop} (N : News h₀ L s.heap led) (hl : s.heap.IsList l vs.toArray) (hm : s.heap.IsList m us.toArray) (h1 : PairsL tl₁ vs rs) (h2 : PairsL tl₂ us rs) (s1 : ∀ x ∈ tl₁, x ∈ led) (s2 : ∀ x ∈ tl₂, x ∈ led) (hu : A.units + 1 < cLine) (h : Q (.bool false) s) :
    wpAny (model prog w) A (compareOp .NotEq (.ref l) (.ref m)) Q E s := ne_pairLists hl hm (h1.are N s1) (h2.are N s2) hu (by
  rw [show (!(rs == rs)) = false by simp]; exact h)
theorem ne_opt {prog : Program} {w : World} {A : Around} {E : Value → Shared → Prop} {s : Shared} {v u : Value} {o : Option Octs} {Q : Value → Shared → Prop} (hv : IsOpt v o) (hu : IsOpt u o) (h : Q (.bool false) s) : wpAny (model prog w) A (compareOp .NotEq v u) Q E s := by
  cases o with
  | none =>
    have hv : v = .none := hv
    have hu : u = .none := hu
    subst hv hu
    exact EqNone.ne_none_none h
  | some b =>
    obtain ⟨t, rfl⟩ := hv
    obtain ⟨t', rfl⟩ := hu
    refine ne_bytes ?_
    rw [show (b.toArray.toList != b.toArray.toList) = false by simp]; exact h
theorem ne_bytes_same {prog : Program} {w : World} {A : Around} {E : Value → Shared → Prop} {s : Shared} {b : Array UInt8} {t u : Tok} {Q : Value → Shared → Prop} (h : Q (.bool false) s) : wpAny (model prog w) A (compareOp .NotEq (.bytes b t) (.bytes b u)) Q E s := by
  refine ne_bytes ?_
  rw [show (b.toList != b.toList) = false by simp]; exact h
theorem ne_bool_same {prog : Program} {w : World} {A : Around} {E : Value → Shared → Prop} {s : Shared} {c : Bool} {Q : Value → Shared → Prop} (h : Q (.bool false) s) : wpAny (model prog w) A (compareOp .NotEq (.bool c) (.bool c)) Q E s := by
  refine ne_bool ?_
  rw [show (c != c) = false by simp]; exact h
noncomputable abbrev rrMap (b : Octs) (t : Tok) (me mb mk ml : Option Value) (D p : Addr) : Str → Option Value := fun y =>
  if y = Str.ofString "ended" then me else if y = Str.ofString "begun" then mb else if y = Str.ofString "keyword" then mk else if y = Str.ofString "told" then some (.ref D) else if y = Str.ofString "due" then some (.ref p) else if y = Str.ofString "kept" then some (.bytes b.toArray t) else if y = Str.ofString "lines" then ml else List.lookup y ([(Str.ofString "octets", Value.bytes b.toArray t)] : List (Str × Value)).reverse
theorem pairs4 {led : Ledger} {a1 a2 a3 a4 : Addr} {x1 x2 x3 x4 y1 y2 y3 y4 : Octs} {t1 t2 t3 t4 u1 u2 u3 u4 : Tok} (m1 : (a1, tupO [.bytes x1.toArray t1, .bytes y1.toArray u1]) ∈ led) (m2 : (a2, tupO [.bytes x2.toArray t2, .bytes y2.toArray u2]) ∈ led) (m3 : (a3, tupO [.bytes x3.toArray t3, .bytes y3.toArray u3]) ∈ led) (m4 : (a4, tupO [.bytes x4.toArray t4, .bytes y4.toArray u4]) ∈ led) :
    ∃ tq kps, PairsL tq [.ref a1, .ref a2, .ref a3, .ref a4] kps ∧ ∀ x ∈ tq, x ∈ led :=
  ⟨_, _, (.snoc (p := a4) (a := x4) (c := y4) (t₁ := t4) (t₂ := u4) (.snoc (p := a3) (a := x3) (c := y3) (t₁ := t3) (t₂ := u3) (.snoc (p := a2) (a := x2) (c := y2) (t₁ := t2) (t₂ := u2) (.snoc (p := a1) (a := x1) (c := y1) (t₁ := t1) (t₂ := u1) .nil))) : PairsL _ ([] ++ [.ref a1] ++ [.ref a2] ++ [.ref a3] ++ [.ref a4]) _), fun x hx => by
    simp only [List.mem_cons, List.not_mem_nil, or_false] at hx
    rcases hx with rfl | rfl | rfl | rfl
    · exact m4
    · exact m3
    · exact m2
    · exact m1⟩
theorem tidy {h₀ h : Heap} {L : Addr} {a b c d e : Addr × Obj} {led tl tl3 : Ledger} (N : News h₀ L h (a :: (led ++ b :: ((c :: d :: ([e] ++ tl)) ++ tl3)))) : News h₀ L h (a :: d :: (led ++ tl)) := fun x hx => N x (by
  simp only [List.mem_cons, List.mem_append, List.not_mem_nil, or_false] at hx ⊢
  rcases hx with rfl | rfl | hx | hx
  · exact .inl rfl
  · exact .inr (.inr (.inr (.inl (.inr (.inl rfl)))))
  · exact .inr (.inl hx)
  · exact .inr (.inr (.inr (.inl (.inr (.inr (.inr hx)))))))
theorem rr_name {G : Prop} {h₀ h : Heap} {L D : Addr} {ys : List Value} {b : Octs} {t : Tok} {m0 : Str → Option Value} {bx c e : Addr × Obj} {led : Ledger} {p : Addr} {us : List Value} {n : Nat} {tl tl3 : Ledger} {rs : List (Octs × Octs)} (F : Fr h₀ L h m0) (N : News h₀ L h ((D, LCg.lst ys) :: (led ++ bx :: ((c :: (p, LO us n) :: ([e] ++ tl)) ++ tl3)))) (hm : ∀ y, m0 y = rrMap b t none none none (some (.ref e.1)) D p y) (q : PairsL tl us rs)
    (k : ∀ p us n tl ml, Fr h₀ L h (rrMap b t none none none ml D p) → News h₀ L h ((D, LCg.lst ys) :: (p, LO us n) :: (led ++ tl)) → PairsL tl us rs → G) : G := k _ _ _ _ _ (fr_ext F hm) (tidy N) q
local macro_rules | `(tactic| walk_at "compareOp NotEq") => `(tactic| refine ne_opt (by assumption) (by assumption) ?_)
local macro_rules | `(tactic| walk_at "compareOp NotEq bytes bytes") => `(tactic| ((with_reducible show wpAny _ _ (compareOp CmpOp.NotEq (Value.bytes _ _) (Value.bytes _ _)) _ _ _); with_reducible refine ne_bytes_same ?_))
local macro_rules | `(tactic| walk_at "compareOp NotEq bool bool") => `(tactic| with_reducible refine ne_bool_same ?_)
local macro_rules | `(tactic| walk_at "compareOp NotEq ref ref") => `(tactic| ((with_reducible show wpAny _ _ (compareOp CmpOp.NotEq (Value.ref _) (Value.ref _)) _ _ _); refine hold_w ?_))
local macro_rules | `(tactic| walk_at "call ref") => `(tactic| ((with_reducible show wpAny _ _ (call (Value.ref 47) [Value.ref _, Value.bytes _ _]) _ _ _); (with_reducible rename News _ _ _ _ => kN); (with_reducible rename Fr _ _ _ _ => kF); k_dflt (refine use_call (value_ok (by exact (Base.mk (by with_reducible assumption) (by with_reducible assumption)).keeps (Fr.keep kF)) (by with_reducible assumption) (by with_reducible assumption) (isl_led kN (by k_mem) rfl) (PairsL.are (by with_reducible assumption) kN (by ((intro x hx; repeat (first | exact hx | (apply List.mem_cons_of_mem) | (exact List.mem_append_left _ hx) | (exact List.mem_append_right _ hx)))))) (by with_reducible assumption) _ _) kF kN ?_); clear kF kN; intro _ _ _ _ _ _ _))
local macro_rules | `(tactic| walk_at "call ref") => `(tactic| ((with_reducible show wpAny _ _ (call (Value.ref 86) [Value.ref _, Value.bytes _ _]) _ _ _); (with_reducible rename News _ _ _ _ => kN); (with_reducible rename Fr _ _ _ _ => kF); k_dflt (refine use_call (lvalue_ok (by exact (Base.mk (by with_reducible assumption) (by with_reducible assumption)).keeps (Fr.keep kF)) (by with_reducible assumption) (by with_reducible assumption) (isl_led kN (by k_mem) rfl) (PairsL.are (by with_reducible assumption) kN (by ((intro x hx; repeat (first | exact hx | (apply List.mem_cons_of_mem) | (exact List.mem_append_left _ hx) | (exact List.mem_append_right _ hx)))))) (by with_reducible assumption) _ _) kF kN ?_); clear kF kN; intro _ _ _ _ _ _ _))
local macro_rules | `(tactic| walk_at "call ref") => `(tactic| ((with_reducible show wpAny _ _ (call (Value.ref 54) [Value.ref _, Value.bytes _ _, Value.bytes _ _]) _ _ _); (with_reducible rename News _ _ _ _ => kN); (with_reducible rename Fr _ _ _ _ => kF); k_dflt (refine use_call (ends_as (ends_ok (by exact (Base.mk (by with_reducible assumption) (by with_reducible assumption)).keeps (Fr.keep kF)) (by with_reducible assumption) (by with_reducible assumption) (isl_led kN (by k_mem) rfl) (PairsL.are (by with_reducible assumption) kN (by ((intro x hx; repeat (first | exact hx | (apply List.mem_cons_of_mem) | (exact List.mem_append_left _ hx) | (exact List.mem_append_right _ hx)))))) (by with_reducible assumption) _ _ _ _)) kF kN ?_); clear kF kN; intro _ _ _ _ _ _ kv; subst kv))
local macro_rules | `(tactic| walk_at "call ref") => `(tactic| ((with_reducible show wpAny _ _ (call (Value.ref 91) [Value.ref _, Value.bytes _ _, Value.bytes _ _]) _ _ _); (with_reducible rename News _ _ _ _ => kN); (with_reducible rename Fr _ _ _ _ => kF); k_dflt (refine use_call (pairs_ok (by exact (Base.mk (by with_reducible assumption) (by with_reducible assumption)).keeps (Fr.keep kF)) (by with_reducible assumption) (by with_reducible assumption) (isl_led kN (by k_mem) rfl) (PairsL.are (by with_reducible assumption) kN (by ((intro x hx; repeat (first | exact hx | (apply List.mem_cons_of_mem) | (exact List.mem_append_left _ hx) | (exact List.mem_append_right _ hx)))))) (by with_reducible assumption) _ _ _ _) kF kN ?_); clear kF kN; intro _ _ _ _ _ _ kv; subst kv))
local macro_rules | `(tactic| walk_at "call ref") => `(tactic| ((with_reducible show wpAny _ _ (call (Value.ref 81) [Value.ref _]) _ _ _); (with_reducible rename News _ _ _ _ => kN); (with_reducible rename Fr _ _ _ _ => kF); (refine use_pairs (told_as (by assumption) (told_ok (by exact (Base.mk (by with_reducible assumption) (by with_reducible assumption)).keeps (Fr.keep kF)) (by with_reducible assumption) (by with_reducible assumption) (isl_led kN (by k_mem) rfl) (by assumption) (by assumption) (by assumption))) kF kN ?_); clear kF kN; intro _ _ _ _ _ _ _ _ _))
noncomputable abbrev KeyJ (b : Octs) (t : Tok) (ml : Option Value) (D pd : Addr) (rest : Ledger) (l : Addr) (us : List Value) (_i : Nat) (m : Str → Option Value) (led' : Ledger) : Prop := ∃ kws mk mb me, BytesAre us kws ∧ m = rrMap b t me mb mk ml D pd ∧ led' = (l, tupO us) :: rest
noncomputable abbrev EndJ (b : Octs) (t : Tok) (ml : Option Value) (D pd : Addr) (rest : Ledger) (l : Addr) (us : List Value) (_i : Nat) (m : Str → Option Value) (led' : Ledger) : Prop := ∃ mk mb me e0 e1 e2 e3 e4, m = rrMap b t me mb mk ml D pd ∧ led' = (l, tupO us) :: e4 :: e3 :: e2 :: e1 :: e0 :: rest ∧ ∃ tq kps, PairsL tq us kps ∧ ∀ x ∈ tq, x ∈ led'
theorem rright_ok {w mean mg mb} {s : Shared} (B : Base w mean mg mb s.heap) {dp un : Nat} {fr} (hd : dp < 600) (hu : un < 3000) (b : Octs) (t : Tok) (hb : b.length ≤ 900) :
    wpC (MW w) (arnd dp un fr) (call (.ref 96) [.bytes b.toArray t]) (Ends s fun v _ => v = .bool true) never s := by
  refine enter_c [("octets", .bytes b.toArray t)] B rfl rfl (by omega) rfl rfl fun fr' h₀ L h₁ tk ⟨X, T⟩ F N kk => ?_
  refine postC_gen fun QQ hQQ => ?_
  have hsc := scan_bound b
  obtain ⟨rs, hrs⟩ : ∃ rs, rs = toldL (scanF [] b) := ⟨_, rfl⟩
  have hrl : rs.length ≤ 1000 := by
    have := toldL_length (scanF [] b)
    rw [← hrs] at this; omega
  have hsn : (scanF [] b).length ≤ 1000 := by omega
  have hsx : ∀ x ∈ scanF [] b, x.length ≤ 1000 := fun x hx => Nat.le_trans (hsc.2 x hx) (by omega)
  have hd9 : dp + 1 < 900 := by omega
  have hd8 : dp + 1 < 800 := by omega
  have hu5 : un + 3 < 5000 := by omega
  have hrm : rs.length ≤ 1000000 := by omega
  clear hsc
  show wpC _ _ (execs _ _) _ _ _
  with_reducible refine execsC_cons (wpC_of ?_)
  k_steps
  show wpC _ _ (execs _ _) _ _ _
  with_reducible refine execsC_cons (wpC_of ?_)
  k_steps
  rename PairsL _ _ _ => hP2
  rename Fr _ _ _ _ => F1
  rename News _ _ _ _ => N1
  show wpC _ _ (execs _ _) _ _ _
  refine execsC_cons (assignCompC rfl (callNameC ?_))
  k_steps
  rename Fr _ _ _ _ => F1
  rename News _ _ _ _ => N1
  refine callDefC (F1.keep _ _ (X 42 _ rfl)) rfl rfl ?_
  show wpC _ _ (spliced [(false, eval _ _)]) _ _ _
  refine splicedC_cons (wpC_of ?_)
  k_steps
  rename Fr _ _ _ _ => F2
  rename News _ _ _ _ => N2
  refine splicedC_nil ⟨F2.keep _ _ (X 42 _ rfl), ?_⟩
  refine use_pairs_c (rs := rs) (by rw [hrs]; exact rows_ok (by exact (Base.mk X T).keeps F2.keep) (by omega) (by omega) b t (by omega)) F2 N2 ?_
  intro p3 us3 n3 tl3 h3 tk3 F3 N3 hP3
  clear F2 N2
  have hp3 : PairsAre h3 us3 rs := hP3.are N3 fun x hx => .tail _ (List.mem_append_right _ hx)
  refine core_list (J := fun i ys led => PairsL led ys (rs.take i)) (vs := us3) ⟨_, (N3 _ (.head _)).1, rfl, _, rfl⟩ rfl rfl rfl rfl (by decide) (by rw [hP3.length]; omega) .nil (fun H2 => ?turn) ?fin
  case turn =>
    rintro i v ys led h tk m' oI C D hv hys F' N' off
    obtain ⟨r, hr, hri⟩ := hp3.get hv
    refine assign_pair (hr.keeps F'.keep) rfl F' N' rfl rfl rfl fun h' tk' t₁ t₂ G M => ?_
    refine wpAny_tests_nil ?_
    have X' := X.keeps F3.keep
    have T' := T.keeps F3.keep
    clear F3 N3 X T F' N'
    k_steps
    (try (any_goals first | exact (0 : Nat) | exact (Str.ofString "") | exact Value.none))
    rename Addr => D9
    rename Fr _ _ _ _ => F'
    rename News _ _ _ _ => N'
    rename _ ∧ _ => l1
    refine ⟨_, _, _, (D9, tupO [.bytes r.1.toArray t₁, .bytes r.2.toArray t₂]) :: led, rfl, F', fun x hx => ?nw, fun x hx => ?of, ?j⟩
    case j => rw [List.take_add_one, hri]; exact .snoc hys
    case nw =>
      simp only [List.mem_cons] at hx
      rcases hx with rfl | rfl | rfl | hx
      · exact N' _ (by k_mem)
      · exact N' _ (by k_mem)
      · exact N' _ (by k_mem)
      · exact N' _ (by ((repeat (first | exact hx | (apply List.mem_cons_of_mem)))))
    case of =>
      rcases List.mem_cons.mp hx with rfl | hx
      · exact ⟨Nat.ne_of_gt l1.1, Nat.ne_of_gt l1.2.1⟩
      · exact off x hx
  case fin =>
    rintro C D ys led h tk m' hys F' N' off
    refine post_assign F3 N3 F' N' off rfl rfl ?_
    clear F3 N3 F' N' off
    intro h'' tk'' F N off'
    rw [List.take_of_length_le (by rw [hP3.length]; exact Nat.le_refl _)] at hys
    refine rr_name (b := b) (t := t) F N (fun y => ?_) hP2 fun pd usd nd tld ml F5 N5 hP2 => ?_
    · unfold rrMap
      ((refine Decidable.byCases (p := y = Str.ofString "ended") (fun hh => by subst hh; rfl) (fun hh => ?_); simp only [ite_sk hh]; try clear hh))
      ((refine Decidable.byCases (p := y = Str.ofString "begun") (fun hh => by subst hh; rfl) (fun hh => ?_); simp only [ite_sk hh]; try clear hh))
      ((refine Decidable.byCases (p := y = Str.ofString "keyword") (fun hh => by subst hh; rfl) (fun hh => ?_); simp only [ite_sk hh]; try clear hh))
    clear F N off' hP3 hp3 hsn hsx hrs
    show wpC _ _ (execs _ _) _ _ _
    refine execsC_cons (ifC (wpC_of ?_))
    k_steps
    rename Fr _ _ _ _ => F5
    rename News _ _ _ _ => N5
    refine hold_out (ne_pairs_same N5 (isl_led N5 (by k_mem) rfl) (isl_led N5 (by k_mem) rfl) hys hP2 (by ((intro x hx; repeat (first | exact hx | (apply List.mem_cons_of_mem) | (exact List.mem_append_left _ hx) | (exact List.mem_append_right _ hx))))) (by ((intro x hx; repeat (first | exact hx | (apply List.mem_cons_of_mem) | (exact List.mem_append_left _ hx) | (exact List.mem_append_right _ hx))))) (by show un + 3 + 1 < (9900 : Nat); omega) ?_)
    k_steps
    · rename false = true => q
      exact nomatch q
    · refine execsC_nil ?_
      show wpC _ _ (execs _ _) _ _ _
      with_reducible refine execsC_cons (wpC_of ?_)
      with_reducible refine For_tuple (J := KeyJ b t ml D pd ((D, LCg.lst ys) :: (pd, LO usd nd) :: (led ++ tld))) (L := L) (h₀ := h₀) rfl ?_ ?_ ?_ ?_ (by with_unfolding_all (intro _; rfl))
      · rintro l us i m led' h ⟨kws, mk, mb, me, hkb, rfl, rfl⟩ F' N'
        exact ⟨_, (N' _ (.head _)).1, rfl, _, rfl⟩
      · k_steps
        rename Fr _ _ _ _ => F'
        rename News _ _ _ _ => N'
        exact hold_out ⟨_, _, rfl, ⟨_, _, rfl⟩, _, _, F', N', _, none, none, none, (.cons (.cons (.cons (.cons (.cons (.cons .nil)))))), rfl, rfl⟩
      · rintro l us i v m led' h tk it io hv ⟨kws, mk, mb, me, hkb, rfl, rfl⟩ F' N' off
        obtain ⟨kw, tkw, rfl, _⟩ := hkb.get hv
        refine turn_gen fun Q2 hQ2 => ?_
        refine assign_one F' N' rfl rfl fun h' tk' G M => ?_
        clear F' N' F5 N5
        k_steps
        rename Fr _ _ _ _ => F'
        rename News _ _ _ _ => N'
        refine hQ2 _ ?_
        refine ⟨_, _, rrMap b t me mb (some (.bytes kw.toArray tkw)) ml D pd, _, rfl, fr_ext F' fun y => ?fm, N', off, kws, _, _, _, hkb, rfl, rfl⟩
        case fm =>
          unfold rrMap
          ((refine Decidable.byCases (p := y = Str.ofString "keyword") (fun hh => by subst hh; rfl) (fun hh => ?_); simp only [ite_sk hh]; try clear hh))
      · rintro l us m led' h tk ⟨kws, mk, mb, me, hkb, rfl, rfl⟩ F' N'
        clear F5 N5
        show wpC _ _ (execs _ _) _ _ _
        with_reducible refine execsC_cons (wpC_of ?_)
        with_reducible refine For_tuple (J := EndJ b t ml D pd ((D, LCg.lst ys) :: (pd, LO usd nd) :: (led ++ tld))) (L := L) (h₀ := h₀) rfl ?_ ?_ ?_ ?_ (by with_unfolding_all (intro _; rfl))
        · rintro l us i m led' h ⟨mk, mb, me, e0, e1, e2, e3, e4, rfl, rfl, _⟩ F' N'
          exact ⟨_, (N' _ (.head _)).1, rfl, _, rfl⟩
        · k_steps
          rename Fr _ _ _ _ => F'
          rename News _ _ _ _ => N'
          exact hold_out ⟨_, _, rfl, ⟨_, _, rfl⟩, _, _, F', N', mk, mb, me, _, _, _, _, _, rfl, rfl, pairs4 (by k_mem) (by k_mem) (by k_mem) (by k_mem)⟩
        · rintro l us i v m led' h tk it io hv ⟨mk, mb, me, e0, e1, e2, e3, e4, rfl, rfl, tq, kps, hq, hsub⟩ F' N' off
          obtain ⟨r, hr, _⟩ := (hq.are N' fun x hx => .tail _ (hsub x hx)).get hv
          refine turn_gen fun Q2 hQ2 => ?_
          refine assign_pair hr rfl F' N' rfl rfl rfl fun h' tk' t₁ t₂ G M => ?_
          clear F' N'
          k_steps
          rename Fr _ _ _ _ => F'
          rename News _ _ _ _ => N'
          refine hQ2 _ ?_
          refine ⟨_, _, rrMap b t (some (.bytes r.2.toArray t₂)) (some (.bytes r.1.toArray t₁)) mk ml D pd, _, rfl, fr_ext F' fun y => ?fm, N', off, _, _, _, e0, e1, e2, e3, e4, rfl, rfl, tq, kps, hq, hsub⟩
          case fm =>
            unfold rrMap
            ((refine Decidable.byCases (p := y = Str.ofString "ended") (fun hh => by subst hh; rfl) (fun hh => ?_); simp only [ite_sk hh]; try clear hh))
            ((refine Decidable.byCases (p := y = Str.ofString "begun") (fun hh => by subst hh; rfl) (fun hh => ?_); simp only [ite_sk hh]; try clear hh))
        · rintro l us m led' h tk ⟨mk, mb, me, e0, e1, e2, e3, e4, rfl, rfl, _⟩ F' N'
          show wpC _ _ (execs _ _) _ _ _
          with_reducible refine execsC_cons (wpC_of ?_)
          k_steps
          rename Fr _ _ _ _ => F'
          refine hQQ _ _ ?_
          exact ⟨_, _, rfl, F'.keep, rfl⟩

/-! F12 -/
theorem enter_b {w : World} {mean : ExcName → Option Value} {mg mb : Str → Option Value} {s : Shared} {dp un : Nat} {fr : Option (List Env)} {name qual : Str} {params : Arguments} {body : List Stmt} {scope : Scope} {doc pm cdv ct oc : Value} {an od : Option Addr} {osl : Array (Option Value)} {f : Addr} {vs : List Value} {Qf : Value → Shared → Prop}
    {h₀ : Heap} {Lc : Addr} {mc : Str → Option Value} {led : Ledger} (binds : List (Str × Value)) (B : Base w mean mg mb h₀) (Fc : Fr h₀ Lc s.heap mc) (Nc : News h₀ Lc s.heap led) (ho : (Head.hd.heap_39 w.params).lookup f = some ⟨oc, od, .func (fnOf name qual params body scope .none .none doc pm an cdv ct), osl⟩) (hcd : codeIn (Head.hd.heap_39 w.params) cdv qual = true) (hroom : dp < 1000)
    (hbind : bindArgs (fnOf name qual params body scope .none .none doc pm an cdv ct) ⟨vs, []⟩ = pure binds) (hloc : (binds.all fun x => decide (scope.names.lookup x.1 = some .local)) = true)
    (h : ∀ (fr' : Option (List Env)) (L : Addr) (h₁ : Heap) (tk : Nat) (oL : Obj), s.heap.get? Lc = some oL → Fr h₀ L h₁ (fun y => binds.reverse.lookup y) → News h₀ L h₁ ((Lc, oL) :: led) →
      wpAny (model PySem.Challenge.pw_pb0511_01 w) (arnd (dp + 1) (un + 3) fr') (execs body (envOf qual scope L f cdv)) (fun fl s' => Qf (match fl with | .ret v => v | _ => .none) s') never { s with heap := h₁, toks := tk })
    (hcell : (scope.names.all fun x => decide (x.2 ≠ .cell)) = true := by rfl) (hco : scope.isCoroutine = false := by rfl) (hgen : scope.isGenerator = false := by rfl) (hk : scope.kind = .function := by rfl) :
    wpAny (model PySem.Challenge.pw_pb0511_01 w) (arnd dp un fr) (call (.ref f) vs) Qf never s := by
  have B1 := B.keeps Fc.keep
  obtain ⟨oL, hoL⟩ : ∃ oL, s.heap.get? Lc = some oL := by obtain ⟨o, _, _, e, _⟩ := Fc.ns; exact ⟨o, e⟩
  have hLc : h₀.get? Lc = none := Heap.get?_none_of_le Fc.above
  refine wpAny_call (codeAny_call_def (fd := fnOf name qual params body scope .none .none doc pm an cdv ct) (body := body) (binds := binds) hroom (B1.X _ _ ho) rfl B1.T.nolimit (codeRec_of B1.X hcd) rfl (BindsTo.of_eq hbind)
    (fun x hx => of_decide_eq_true (List.all_eq_true.mp hcell x hx)) (locs hloc) (fun h₁ hns hk₁ => ?_) hco hgen hk)
  refine wpAny_mono (h (fr.map (envOf qual scope s.heap.objs.size f cdv :: ·)) s.heap.objs.size h₁ _ oL hoL ⟨hns, fun b o e => hk₁ _ _ (Fc.keep b o e), Nat.le_trans Fc.above (Nat.le_of_lt Fc.ns.lt)⟩ (fun x hx => ?_)) (fun fl s' q => ?_) (fun _ _ x => x.elim)
  · rcases List.mem_cons.mp hx with rfl | hx
    · exact ⟨hk₁ _ _ hoL, Nat.ne_of_lt (Heap.lt_size hoL), hLc⟩
    · exact ⟨hk₁ _ _ (Nc x hx).1, Nat.ne_of_lt (Heap.lt_size (Nc x hx).1), (Nc x hx).2.2⟩
  · cases fl <;> exact q
theorem set_tape {prog : Program} {w : World} {A : Around} {E : Value → Shared → Prop} {s : Shared} {h₀ : Heap} {L T : Addr} {a b v : Value} {n : Nat} {t : Tok} {m : Str → Option Value} {led rest : Ledger} {Q : Unit → Shared → Prop} (F : Fr h₀ L s.heap m) (N : News h₀ L s.heap led) (hm : (T, LO [a, b] n) ∈ led) (hsub : ∀ x ∈ rest, x ∈ led) (hap : ∀ x ∈ rest, x.1 ≠ T)
    (h : ∀ h' n', Fr h₀ L h' m → News h₀ L h' ((T, LO [a, v] n') :: rest) → Q () { s with heap := h' }) :
    wpAny (model prog w) A (setItem (.ref T) (.int 1 t) v) Q E s := by
  have z := N _ hm
  have fin : ∀ h' n', h'.get? T = some (LO [a, v] n') → Heap.SameBut T s.heap h' → Q () { s with heap := h' } := fun h' n' hO hs => h h' n' (F.change hs z.2.1 z.2.2) fun y hy => by
    rcases List.mem_cons.mp hy with rfl | hy
    · exact ⟨hO, z.2⟩
    · exact ⟨hs.extBut _ _ (hap y hy) (N y (hsub y hy)).1, (N y (hsub y hy)).2⟩
  have ho := z.1
  have hl : s.heap.IsList T #[a, b] := ⟨_, ho, rfl, _, rfl⟩
  have key : ∀ k : Int, k = 1 → wpAny (model prog w) A (setItem (.ref T) (.int k t) v) Q E s := fun k hk => by
    have h0 : 0 ≤ k := by omega
    have hfit : k < 2 ^ 63 := by omega
    unfold setItem
    try with_reducible refine wpAny_holding ?_
    first | refine wpAny_bind (wpAny_pure ?_) | skip
    refine wpAny_bind (wpAny_sequenceKey hl.typeIs (by decide) ?_)
    refine wpAny_bind (wpAny_callSpecial?_slot (name := Str.ofString "__setitem__") hl.typeIs slot_list_setitem
      (wpAny_call_entry slot_list_setitem hl.typeIs entry_list_setitem ?_ (args_list_setitem _ _ _)))
    show wpAny _ _ (Builtin.List.listSubscript? (.int k t) >>= _) _ _ s
    refine wpAny_bind (wpAny_listSubscript_int (fitsIndex_of h0 hfit) ?_)
    clear hfit
    obtain ⟨j, rfl⟩ := Int.eq_ofNat_of_zero_le h0
    have hj : j = 1 := by omega
    subst hj
    show wpAny _ _ ((seqItemAt T 1 >>= fun r => pure (r.map (1, ·))) >>= _) _ _ s
    refine wpAny_bind (wpAny_bind (wpAny_seqItemAt ho rfl (wpAny_pure ?_)))
    show wpAny _ _ (setSeqItemAt T 1 v >>= _) _ _ s
    have hob : ∃ n', Obj.mapSeq (·.setIfInBounds 1 v) (LO [a, b] n) = LO [a, v] n' := ⟨_, rfl⟩
    obtain ⟨n2, hob⟩ := hob
    have hfin := Heap.get?_update_self (Obj.mapSeq (·.setIfInBounds 1 v)) ho (by rw [hob]; rfl)
    rw [hob] at hfin
    refine wpAny_bind (wpAny_setSeqItemAt ho rfl ?_)
    first
      | exact wpAny_bind (wpAny_pure (wpAny_pure ⟨.none, rfl, wpAny_pure (fin _ _ hfin (Heap.SameBut.update ..))⟩))
      | exact wpAny_pure ⟨.none, rfl, wpAny_pure (fin _ _ hfin (Heap.SameBut.update ..))⟩
  exact key 1 rfl
theorem len_LO {prog : Program} {w : World} {A : Around} {E : Value → Shared → Prop} {s : Shared} {h₀ : Heap} {L l : Addr} {vs : List Value} {n : Nat} {led : Ledger} {Q : Value → Shared → Prop} (N : News h₀ L s.heap led) (hm : (l, LO vs n) ∈ led) (hz : vs.length ≤ 1000000) (h : ∀ t k, Q (.int ((vs.length : Nat) : Int) t) { s with toks := k }) : wpAny (model prog w) A (call (.builtin "len") [.ref l]) Q E s :=
  len_list (isl_led N hm rfl) (by rw [List.size_toArray]; omega) (by rw [List.size_toArray]; exact h _ _)
local macro_rules | `(tactic| walk_at "call builtin:len") => `(tactic| ((with_reducible show wpAny _ _ (call (Value.builtin "len") [Value.ref _]) _ _ _); (with_reducible rename News _ _ _ _ => kN); (refine len_LO kN (by k_mem) (by omega) ?_); intro _ _))
/-- the tape's numbers -/
noncomputable def Nums (vs : List Value) : Prop := ∀ v ∈ vs, ∃ (x : Nat) (t : Tok), v = .int (x : Int) t ∧ x < 1048576
noncomputable def DrawEnd (s : Shared) (h₀ : Heap) (Lc : Addr) (m : Str → Option Value) (T l : Addr) (vs : List Value) (nl : Nat) (led : Ledger) (k z : Nat) (v : Value) (s' : Shared) : Prop :=
  ∃ h tk r t' t'' n', s' = { s with heap := h, toks := tk } ∧ v = .int ((r : Nat) : Int) t' ∧ r < z ∧ Fr h₀ Lc h m ∧ News h₀ Lc h ((T, LO [.ref l, .int ((k + 1 : Nat) : Int) t''] n') :: (l, LO vs nl) :: led)
theorem fmod_nat (x z : Nat) : Int.fmod (x : Int) (z : Int) = ((x % z : Nat) : Int) := by
  rw [Int.fmod_eq_emod_of_nonneg _ (by omega)]; rfl
theorem draw_ok {w mean mg mb} {s : Shared} {h₀ : Heap} (B : Base w mean mg mb h₀) {dp un : Nat} {fr} (hd : dp < 800) (hu : un < 5000) {Lc T l : Addr} {m : Str → Option Value} {led : Ledger} {vs : List Value} {k n nl z : Nat} {t tz : Tok}
    (F : Fr h₀ Lc s.heap m) (N : News h₀ Lc s.heap ((T, LO [.ref l, .int (k : Int) t] n) :: (l, LO vs nl) :: led)) (hap : ∀ p ∈ led, p.1 ≠ T) (hlT : l ≠ T) (hn : Nums vs) (hlen : vs.length ≤ 60) (hz : 0 < z) (hz' : z ≤ 1000) :
    wpAny (MW w) (arnd dp un fr) (call (.ref 62) [.ref T, .int (z : Int) tz]) (DrawEnd s h₀ Lc m T l vs nl led k z) never s := by
  have hcT : Lc ≠ T := Ne.symm (N _ (.head _)).2.1
  refine enter_b [("tape", .ref T), ("size", .int (z : Int) tz)] B F N rfl rfl (by omega) rfl rfl fun fr' L h₁ tk oL hoL F1 N1 => ?_
  obtain ⟨X, T0⟩ := B
  k_steps
  rename Fr _ _ _ _ => F2
  rename News _ _ _ _ => N2
  refine set_tape (rest := (Lc, oL) :: (l, LO vs nl) :: led) F2 N2 (by k_mem) (fun x hx => ?_) (fun x hx => ?_) ?_
  · rcases List.mem_cons.mp hx with rfl | hx
    · exact .head _
    · exact .tail _ (.tail _ hx)
  · rcases List.mem_cons.mp hx with rfl | hx
    · exact hcT
    · rcases List.mem_cons.mp hx with rfl | hx
      · exact hlT
      · exact hap x hx
  clear F2 N2
  intro h' n' F2 N2
  have fin : ∀ (h2 : Heap) (L' : Addr) (m' : Str → Option Value) (v' : Value) (n2 : Nat), Fr h₀ L' h2 m' → News h₀ L' h2 ((T, LO [.ref l, v'] n2) :: (Lc, oL) :: (l, LO vs nl) :: led) → Fr h₀ Lc h2 m ∧ News h₀ Lc h2 ((T, LO [.ref l, v'] n2) :: (l, LO vs nl) :: led) := fun h2 L' m' v' n2 F' N' =>
    ⟨Fr.outside F hoL (N' _ (.tail _ (.head _))).1 F'.keep, fun x hx => by
      rcases List.mem_cons.mp hx with rfl | hx
      · exact ⟨(N' _ (.head _)).1, (N _ (.head _)).2⟩
      · exact ⟨(N' x (.tail _ (.tail _ hx))).1, (N x (.tail _ hx)).2⟩⟩
  by_cases hkl : k < vs.length
  · obtain ⟨x, tx, hx, hxl⟩ := hn _ (List.getElem_mem hkl)
    have hv : vs[((k : Int) + 1 - 1).toNat]? = some (.int (x : Int) tx) := by
      rw [show ((k : Int) + 1 - 1).toNat = k by omega, List.getElem?_eq_getElem hkl, hx]
    k_steps
    rename Fr _ _ _ _ => F3
    rename News _ _ _ _ => N3
    exact ⟨_, _, x % z, _, _, _, rfl, by rw [← fmod_nat], Nat.mod_lt _ hz, (fin _ _ _ _ _ F3 N3).1, (fin _ _ _ _ _ F3 N3).2⟩
  · k_steps
    rename Fr _ _ _ _ => F3
    rename News _ _ _ _ => N3
    exact ⟨_, _, 0, _, _, _, rfl, rfl, hz, (fin _ _ _ _ _ F3 N3).1, (fin _ _ _ _ _ F3 N3).2⟩

theorem draw_up {w mean mg mb} {s : Shared} {h₀ : Heap} (B : Base w mean mg mb h₀) {dp un : Nat} {fr} (hd : dp < 800) (hu : un < 5000) {Lc T l : Addr} {m : Str → Option Value} {led : Ledger} {g : Obj → Ledger} {vs : List Value} {n nl : Nat} {k z : Int} {t tz : Tok} {Q : Value → Shared → Prop} {E : Value → Shared → Prop}
    (F : Fr h₀ Lc s.heap m) (N : News h₀ Lc s.heap led) (U : UpdF T (LO [.ref l, .int k t] n) led g) (hl : (l, LO vs nl) ∈ led) (hlT : l ≠ T) (hn : Nums vs) (hlen : vs.length ≤ 60) (hk : 0 ≤ k) (hz : 0 < z) (hz' : z ≤ 1000)
    (h : ∀ h' tk (r : Nat) t' t'' n', (r : Int) < z → Fr h₀ Lc h' m → News h₀ Lc h' (g (LO [.ref l, .int (k + 1) t''] n')) → Q (.int (r : Int) t') { s with heap := h', toks := tk }) :
    wpAny (MW w) (arnd dp un fr) (call (.ref 62) [.ref T, .int z tz]) Q E s := by
  obtain ⟨pre, post, rfl, hg, hpre, hpost⟩ := U.split
  obtain ⟨kn, rfl⟩ := Int.eq_ofNat_of_zero_le hk
  obtain ⟨zn, rfl⟩ := Int.eq_ofNat_of_zero_le (Int.le_of_lt hz)
  have hl' : (l, LO vs nl) ∈ pre ++ post := by
    rcases List.mem_append.mp hl with hl | hl
    · exact List.mem_append_left _ hl
    · rcases List.mem_cons.mp hl with e | hl
      · exact absurd (congrArg Prod.fst e) hlT
      · exact List.mem_append_right _ hl
  have N' : News h₀ Lc s.heap ((T, LO [.ref l, .int (kn : Int) t] n) :: (l, LO vs nl) :: (pre ++ post)) := fun x hx => by
    rcases List.mem_cons.mp hx with rfl | hx
    · exact N _ (List.mem_append_right _ (.head _))
    · rcases List.mem_cons.mp hx with rfl | hx
      · exact N _ hl
      · rcases List.mem_append.mp hx with hx | hx
        · exact N _ (List.mem_append_left _ hx)
        · exact N _ (List.mem_append_right _ (.tail _ hx))
  refine wpAny_mono (draw_ok B hd hu F N' (fun x hx => (List.mem_append.mp hx).elim (hpre x) (hpost x)) hlT hn hlen (by omega) (by omega)) (fun v s' q => ?_) fun _ _ x => x.elim
  obtain ⟨h', tk, r, t', t'', n', rfl, rfl, hr, F', N'⟩ := q
  refine h h' tk r t' t'' n' (by omega) F' ?_
  rw [hg]
  intro x hx
  rcases List.mem_append.mp hx with hx | hx
  · exact N' _ (.tail _ (.tail _ (List.mem_append_left _ hx)))
  · rcases List.mem_cons.mp hx with rfl | hx
    · exact N' _ (.head _)
    · exact N' _ (.tail _ (.tail _ (List.mem_append_right _ hx)))

/-! F13 -/
local macro_rules | `(tactic| walk_at "call ref") => `(tactic| ((with_reducible show wpAny _ _ (call (Value.ref 62) [Value.ref _, Value.int _ _]) _ _ _); (with_reducible rename News _ _ _ _ => kN); (with_reducible rename Fr _ _ _ _ => kF); k_dflt (refine draw_up (Base.mk (by with_reducible assumption) (by with_reducible assumption)) (by with_reducible assumption) (by with_reducible assumption) kF kN (by k_updF) (by k_mem) (by first | with_reducible assumption | omega) (by with_reducible assumption) (by with_reducible assumption) (by first | with_reducible assumption | omega) (by decide) (by decide) ?_); clear kF kN; intro _ _ _ _ _ _ _ _ _))
theorem IntsAre_get {vs : List Value} {ns : List Int} (h : IntsAre vs ns) : ∀ {i : Nat} {v : Value}, vs[i]? = some v → ∃ x t, v = .int x t := by
  induction h with
  | nil => intro i v h; simp at h
  | cons x t h ih =>
    intro i v hv
    cases i with
    | zero => simp only [List.getElem?_cons_zero, Option.some.injEq] at hv; subst hv; exact ⟨_, _, rfl⟩
    | succ i => exact ih hv
theorem Nums.snoc {ys : List Value} (h : Nums ys) {x : Int} {t : Tok} : Nums (ys ++ [.int (Int.fmod x 1048576) t]) := fun v hv => by
  rcases List.mem_append.mp hv with hv | hv
  · exact h v hv
  · rw [List.mem_singleton.mp hv]
    refine ⟨(Int.fmod x 1048576).toNat, t, ?_, ?_⟩
    · have := Int.fmod_nonneg_of_pos x (show (0 : Int) < 1048576 by decide)
      rw [Int.toNat_of_nonneg this]
    · have h1 := Int.fmod_nonneg_of_pos x (show (0 : Int) < 1048576 by decide)
      have h2 := Int.fmod_lt_of_pos x (show (0 : Int) < 1048576 by decide)
      omega
/-- bytes below a length -/
noncomputable def Short (c : Nat) (v : Value) : Prop := ∃ (x : Octs) (t : Tok), v = .bytes x.toArray t ∧ x.length ≤ c
theorem made_is (w : World) : ∃ od osl vs n, (Head.hd.heap_39 w.params).lookup 55 = some ⟨.type "tuple", od, .seq (List.toArray vs) n, osl⟩ ∧ vs.length = 22 ∧ ∀ v ∈ vs, Short 16 v := by
  refine ⟨_, _, _, _, rfl, rfl, ?_⟩
  simp only [List.forall_mem_cons, List.forall_mem_nil]
  refine ⟨⟨_, _, rfl, ?_⟩, ⟨_, _, rfl, ?_⟩, ⟨_, _, rfl, ?_⟩, ⟨_, _, rfl, ?_⟩, ⟨_, _, rfl, ?_⟩, ⟨_, _, rfl, ?_⟩, ⟨_, _, rfl, ?_⟩, ⟨_, _, rfl, ?_⟩, ⟨_, _, rfl, ?_⟩, ⟨_, _, rfl, ?_⟩, ⟨_, _, rfl, ?_⟩, ⟨_, _, rfl, ?_⟩, ⟨_, _, rfl, ?_⟩, ⟨_, _, rfl, ?_⟩, ⟨_, _, rfl, ?_⟩, ⟨_, _, rfl, ?_⟩, ⟨_, _, rfl, ?_⟩, ⟨_, _, rfl, ?_⟩, ⟨_, _, rfl, ?_⟩, ⟨_, _, rfl, ?_⟩, ⟨_, _, rfl, ?_⟩, ⟨_, _, rfl, ?_⟩, fun _ h => nomatch h⟩
  all_goals decide
theorem made_item {w : World} {A : Around} {E : Value → Shared → Prop} {s : Shared} {h₀ : Heap} {L : Addr} {m : Str → Option Value} {value slice : Expr} {k : Int} {u : Tok} {Q : Value → Shared → Prop} (X : (Head.hd.heap_39 w.params).In h₀) (F : Fr h₀ L s.heap m) (h0 : 0 ≤ k) (h1 : k < 22)
    (h : ∀ x t, x.length ≤ 16 → Q (.bytes (List.toArray x) t) s)
    (hs : subscripted slice false (.ref 55) (.int k u) = operate [.ref 55, .int k u] (getItem (.ref 55) (.int k u)) := by with_unfolding_all rfl) :
    wpAny (MW w) A (subscriptTail value slice (.ref 55) (.int k u)) Q E s := by
  obtain ⟨od, osl, vs, n, hO, hlen, hsh⟩ := made_is w
  have hO := F.keep _ _ (X 55 _ hO)
  have ht : IsTup s.heap 55 vs.toArray := ⟨_, hO, rfl, _, rfl⟩
  have hk : k.toNat < vs.length := by omega
  obtain ⟨x, t, e, hx⟩ := hsh _ (List.getElem_mem hk)
  have hn : k < ((vs.toArray.size : Nat) : Int) := by rw [List.size_toArray]; omega
  exact tail_any ht.typeIs slot_tuple_getitem.lookup (getItem_tuple ht (by omega) (by omega) (seqIndex_of h0 hn) (x := .bytes x.toArray t) (by simpa using (List.getElem?_eq_getElem hk).trans (congrArg some e)) (h x t hx)) hs
theorem cCellN {M : Model} {A : Around} {E : Value → Shared → Prop} {s : Shared} {env : Env} {scope : Scope} {cl : List (Str × Addr)} {C : Addr} {H : Heap} {x : Str} {pos : Pos} {v : Value} {Q : Value → Shared → Prop} {led : Ledger} {c : Addr} {o : Obj} (N : News H C s.heap led) (hc : cl.lookup x = some c) (ho : (c, o) ∈ led) (hv : o.data = .cell (some v)) (h : Q v s)
    (hk : (compEnvC scope cl C env).scope.kind = .function := by rfl) (hl : (compEnvC scope cl C env).kindOf x = some .cell := by rfl) (hd : (x == ("__debug__" : Str)) = false := by decide) :
    wpAny M A (eval (.Name x pos) (compEnvC scope cl C env)) Q E s :=
  wpAny_Name (wpAny_loadName_cell hk hl hc ⟨o, (N _ ho).1, hv⟩ h) hd
local macro_rules | `(tactic| walk_at "subscriptTail") => `(tactic| ((with_reducible show wpAny _ _ (subscriptTail _ _ (Value.ref 55) (Value.int _ _)) _ _ _); (with_reducible rename Fr _ _ _ _ => kF); k_dflt (refine made_item (by assumption) kF (by omega) (by omega) ?_); intro _ _ _))
local macro_rules | `(tactic| walk_at "subscriptTail Name Call ref int") => `(tactic| ((with_reducible show wpAny _ _ (subscriptTail _ _ (Value.ref 55) (Value.int _ _)) _ _ _); (with_reducible rename Fr _ _ _ _ => kF); k_dflt (refine made_item (by assumption) kF (by omega) (by omega) ?_); intro _ _ _))
local macro_rules | `(tactic| walk_at "eval Name") => `(tactic| (k_here; (with_reducible show wpAny _ _ (eval (Expr.Name _ _) (compEnvC _ _ _ _)) _ _ _); (with_reducible rename News _ _ _ _ => kN); k_dflt (refine cCellN kN (by rfl) (by k_mem) (by assumption) ?_)))
local macro_rules | `(tactic| walk_at "call type:bytes") => `(tactic| ((with_reducible show wpAny _ _ (call (Value.type "bytes") [Value.ref _]) _ _ _); (with_reducible rename News _ _ _ _ => kN); (with_reducible rename Fr _ _ _ _ => kF); k_dflt (refine bytes_K kF kN (isl_led kN (by k_mem) rfl) (by assumption) (by assumption) (by (rw [sizeLine_eq]); omega) rfl ?_); clear kF kN; intro _ _ _ _ _ _))
theorem menu_small {l : List Int} (h : ∀ x ∈ l, 0 ≤ x ∧ x < 256) (k : Nat) : 0 ≤ l.getD k 0 ∧ l.getD k 0 < 256 := by
  rw [List.getD_eq_getElem?_getD]
  cases e : l[k]? with
  | none => exact ⟨by decide, by decide⟩
  | some x => exact h x (List.mem_of_getElem? e)
noncomputable abbrev lawMap (m0 : Str → Option Value) (oct : Octs) (to : Tok) (r : Nat) (tm : Tok) (me ml mk : Option Value) : Str → Option Value := fun y =>
  if y = Str.ofString "octets" then some (.bytes oct.toArray to) else if y = Str.ofString "many" then some (.int (r : Int) tm) else if y = Str.ofString "ended" then me else if y = Str.ofString "line" then ml else if y = Str.ofString "k" then mk else m0 y
theorem lawMap0 {h₀ h : Heap} {L : Addr} {m0 : Str → Option Value} {r : Nat} {t tm : Tok} (F : Fr h₀ L h (fun y => if y = Str.ofString "octets" then some (.bytes #[] t) else if y = Str.ofString "many" then some (.int (r : Int) tm) else m0 y)) : ∃ to tm me ml mk, Fr h₀ L h (lawMap m0 [] to r tm me ml mk) :=
  ⟨t, tm, m0 (Str.ofString "ended"), m0 (Str.ofString "line"), m0 (Str.ofString "k"), fr_ext F fun y => by
    unfold lawMap
    ((refine Decidable.byCases (p := y = Str.ofString "octets") (fun hh => by subst hh; rfl) (fun hh => ?_); simp only [ite_sk hh]; try clear hh))
    ((refine Decidable.byCases (p := y = Str.ofString "many") (fun hh => by subst hh; rfl) (fun hh => ?_); simp only [ite_sk hh]; try clear hh))
    ((refine Decidable.byCases (p := y = Str.ofString "ended") (fun hh => by subst hh; rfl) (fun hh => ?_); simp only [ite_sk hh]; try clear hh))
    ((refine Decidable.byCases (p := y = Str.ofString "line") (fun hh => by subst hh; rfl) (fun hh => ?_); simp only [ite_sk hh]; try clear hh))
    ((refine Decidable.byCases (p := y = Str.ofString "k") (fun hh => by subst hh; rfl) (fun hh => ?_); simp only [ite_sk hh]; try clear hh))⟩
theorem tape_led {h₀ h : Heap} {L T D : Addr} {k : Int} {tk : Tok} {nT : Nat} {led : Ledger} {d c : Addr × Obj} (N : News h₀ L h led) (h1 : (T, LO [.ref D, .int k tk] nT) ∈ led) (h2 : d ∈ led) (h3 : c ∈ led) (hk : 0 ≤ k) : ∃ k' tk nT, 0 ≤ k' ∧ News h₀ L h [(T, LO [.ref D, .int k' tk] nT), d, c] :=
  ⟨k, tk, nT, hk, fun x hx => by
    simp only [List.mem_cons, List.not_mem_nil, or_false] at hx
    rcases hx with rfl | rfl | rfl
    · exact N _ h1
    · exact N _ h2
    · exact N _ h3⟩
theorem fr_obj {h₀ h : Heap} {L : Addr} {m : Str → Option Value} (F : Fr h₀ L h m) : ∃ oL, h.get? L = some oL := by
  obtain ⟨o, _, _, e, _⟩ := F.ns
  exact ⟨o, e⟩
noncomputable abbrev LawJ (m0 : Str → Option Value) (Tp D L : Addr) (ys : List Value) (oc2 : Obj) (_n i : Nat) (m : Str → Option Value) (led : Ledger) : Prop := ∃ oct to r tm me ml mk k tk nT, m = lawMap m0 oct to r tm me ml mk ∧ led = [(Tp, LO [.ref D, .int k tk] nT), (D, LO ys ys.length), (L + 1, oc2)] ∧ 0 ≤ k ∧ oct.length ≤ 20 * i ∧ (r : Int) < 12
noncomputable abbrev SomeJ (Tp D L : Addr) (ys : List Value) (oc2 oL : Obj) (i : Nat) (zs : List Value) (led : Ledger) : Prop := ∃ k tk nT ns, IntsAre zs ns ∧ (∀ n ∈ ns, 0 ≤ n ∧ n < 256) ∧ zs.length ≤ i ∧ 0 ≤ k ∧ led = [(L, oL), (Tp, LO [.ref D, .int k tk] nT), (D, LO ys ys.length), (L + 1, oc2)]
noncomputable abbrev LawM (m0 : Str → Option Value) (Tp D L : Addr) (ys : List Value) (oc2 : Obj) (h₀ : Heap) (s : Shared) (f : Flow) (s' : Shared) : Prop := f = .next ∧ ∃ h tk oct to r tm me ml mk k tk' nT, s' = { s with heap := h, toks := tk } ∧ Fr h₀ L h (lawMap m0 oct to r tm me ml mk) ∧ News h₀ L h [(Tp, LO [.ref D, .int k tk'] nT), (D, LO ys ys.length), (L + 1, oc2)] ∧ 0 ≤ k ∧ oct.length ≤ 300
theorem law_ok {w mean mg mb} {s : Shared} (B : Base w mean mg mb s.heap) {dp un : Nat} {fr} (hd : dp < 500) (hu : un < 2000) {l0 : Addr} {vs0 : List Value} {ns : List Int} (hl : s.heap.IsList l0 vs0.toArray) (hi : IntsAre vs0 ns) (hn : vs0.length ≤ 63) :
    wpC (MW w) (arnd dp un fr) (call (.ref 106) [.ref l0]) (Ends s fun v _ => v = .bool true) never s := by
  refine enterC_c [("script", .ref l0)] B rfl rfl (by omega) rfl (kindsX (by rfl)) (by decide) fun fr' h₀ L h₁ tk cells ⟨X, T⟩ F N Y kk => ?_
  refine postC_gen fun QQ hQQ => ?_
  obtain ⟨oc, rfl, hoc⟩ := Y.one
  clear Y
  have hl1 : h₁.IsList l0 vs0.toArray := hl.at (fun o e => F.keep _ o (kk _ o e))
  have hl0 : h₀.IsList l0 vs0.toArray := hl.at (fun o e => kk _ o e)
  have hoc : oc.data = .cell none := hoc
  have hd8 : dp + 1 < 800 := by omega
  have hd6 : dp + 1 < 600 := by omega
  have hu5 : un + 3 < 5000 := by omega
  have hu3 : un + 3 < 3000 := by omega
  refine execsC_cons (wpC_of ?_)
  k_steps
  refine hold_out (eval_comp ?_)
  k_steps
  rename Fr _ _ _ _ => F1
  rename News _ _ _ _ => N1
  rename ∀ p ∈ [(L + 1, oc)], p.1 < _ => hlt1
  refine core_list (J := fun i ys led => led = [] ∧ Nums ys ∧ ys.length ≤ i) (vs := vs0.toArray.toList.take 60) (isl_led N1 (.head _) rfl) rfl rfl rfl rfl (by decide) (by rw [List.length_take]; omega) ⟨rfl, fun v hv => (nomatch hv), Nat.le_refl _⟩ (fun H2 => ?turn) ?fin
  case turn =>
    rintro i v ys led h tk m' oI C D hv ⟨rfl, hys, hyl⟩ F' N' off
    obtain ⟨x, tx, rfl⟩ := IntsAre_get hi (i := i) (v := v) (by
      have hlt := (List.getElem?_eq_some_iff.mp hv).1
      rw [List.length_take] at hlt
      rw [List.getElem?_take_of_lt (by omega)] at hv
      simpa using hv)
    refine assign_one F' N' rfl rfl fun h' tk' G M => ?_
    refine wpAny_tests_nil ?_
    have X' := X.keeps F1.keep
    have T' := T.keeps F1.keep
    clear F1 N1 X T F' N' hl1 hl0 hl hoc
    k_steps
    exact ⟨_, _, _, [], rfl, by assumption, M, (fun p hp => nomatch hp), rfl, Nums.snoc hys, by rw [List.length_append, List.length_singleton]; omega⟩
  case fin =>
    rintro C D ys led h tk m' ⟨rfl, hys, hyl⟩ F' N' off
    have hyl : ys.length ≤ 60 := Nat.le_trans hyl (by rw [List.length_take]; omega)
    refine post_none F1 N1 F' N' off ?_
    clear F1 N1 F' N'
    intro h'' F N off'
    have hcD : L + 1 ≠ D := off' _ (.tail _ (.head _))
    k_steps
    rename Addr => Tp
    rename Obj => oc2
    rename Fr _ _ _ _ => F2
    rename News _ _ _ _ => N2
    rename oc2.data = Data.cell (some _) => hc2
    rename _ ∧ _ => l1
    have hlT : @Ne Nat D Tp := Nat.ne_of_lt l1.1
    have hcT : @Ne Nat (L + 1) Tp := Nat.ne_of_lt (allLt_mem _ l1.2 (L + 1, oc) (.tail _ (.head _)))
    have N3 : News h₀ L _ [(Tp, LO [.ref D, .int 0 _] 0), (D, LO ys ys.length), (L + 1, oc2)] := fun x hx => by
      simp only [List.mem_cons, List.not_mem_nil, or_false] at hx
      rcases hx with rfl | rfl | rfl
      · exact N2 _ (.head _)
      · exact N2 _ (.tail _ (.head _))
      · exact N2 _ (by simp)
    generalize bindL _ _ _ = m0 at F2
    clear off' off l1 N2 hl1 hl0 hl hlt1
    refine execsC_cons (wpC_of ?_)
    k_steps
    rename Fr _ _ _ _ => F3
    rename News _ _ _ _ => N4
    rename (_ : Int) < 12 => hr12
    refine execsC_cons (wpC_of (For_range (K := 11) (L := L) (h₀ := h₀) (J := LawJ m0 Tp D L ys oc2) rfl ?_ ?_ ?_ (by decide)))
    · k_steps
      (try (any_goals first | exact (0 : Nat) | exact (Str.ofString "") | exact Value.none))
      rename IsRange _ _ _ _ _ _ _ _ => hR
      rename Fr _ _ _ _ => F'
      rename News _ _ _ _ => N'
      obtain ⟨to, tm, me, ml, mk, F5⟩ := lawMap0 F'
      obtain ⟨k', tk', nT', hk', N6⟩ := tape_led (d := (D, LO ys ys.length)) (c := (L + 1, oc2)) N' (by k_mem) (by k_mem) (by k_mem) (by omega)
      exact hold_out ⟨_, _, _, _, _, rfl, ⟨_, _, rfl⟩, hR, by omega, _, _, F5, N6, [], to, _, tm, me, ml, mk, k', tk', nT', rfl, rfl, hk', by simp, hr12⟩
    · rintro n i t m led h tk it io hlt hnK ⟨oct, to, r, tm, me, ml, mk, k, tk, nT, rfl, rfl, hk0, hol, hr⟩ F' N' off
      refine turn_gen fun Q2 hQ2 => ?_
      have hTi : @Ne Nat Tp it := off _ (.head _)
      refine assign_one F' N' rfl rfl fun h' tk' G M => ?_
      clear F' N' F3 N4
      k_steps
      · (rename Fr _ _ _ _ => F')
        (rename News _ _ _ _ => N')
        (rename List UInt8 => xl)
        obtain ⟨k', tk', nT', hk', N6⟩ := tape_led (d := (D, LO ys ys.length)) (c := (L + 1, oc2)) N' (by k_mem) (by k_mem) (by k_mem) (by omega)
        refine hQ2 _ ?_
        refine ⟨_, _, lawMap m0 ?oo_0 ?tt_0 r tm ?e1_0 ?e2_0 ?e3_0, [(Tp, LO [.ref D, .int k' tk'] nT'), (D, LO ys ys.length), (L + 1, oc2)], rfl, fr_ext F' fun y => ?fm, fun x hx => ?nw, fun x hx => ?of, ?oo_0, ?tt_0, r, tm, ?e1_0, ?e2_0, ?e3_0, k', tk', nT', rfl, rfl, hk', ?len, hr⟩
        case fm =>
          unfold lawMap
          ((refine Decidable.byCases (p := y = Str.ofString "octets") (fun hh => by subst hh; rfl) (fun hh => ?_); simp only [ite_sk hh]; try clear hh))
          ((refine Decidable.byCases (p := y = Str.ofString "line") (fun hh => by subst hh; rfl) (fun hh => ?_); simp only [ite_sk hh]; try clear hh))
          ((refine Decidable.byCases (p := y = Str.ofString "ended") (fun hh => by subst hh; rfl) (fun hh => ?_); simp only [ite_sk hh]; try clear hh))
          ((refine Decidable.byCases (p := y = Str.ofString "k") (fun hh => by subst hh; rfl) (fun hh => ?_); simp only [ite_sk hh]; try clear hh))
        case nw =>
          rcases List.mem_cons.mp hx with rfl | hx
          · exact N' _ (by k_mem)
          · exact N6 x hx
        case of =>
          simp only [List.mem_cons, List.not_mem_nil, or_false] at hx
          rcases hx with rfl | rfl | rfl
          · exact hTi
          · exact off _ (.tail _ (.head _))
          · exact off _ (.tail _ (.tail _ (.head _)))
        case len =>
          simp only [List.length_append, List.length_cons, List.length_nil]
          omega
      · (rename Fr _ _ _ _ => F')
        (rename News _ _ _ _ => N')
        (rename List UInt8 => xl)
        obtain ⟨k', tk', nT', hk', N6⟩ := tape_led (d := (D, LO ys ys.length)) (c := (L + 1, oc2)) N' (by k_mem) (by k_mem) (by k_mem) (by omega)
        refine hQ2 _ ?_
        refine ⟨_, _, lawMap m0 ?oo_1 ?tt_1 r tm ?e1_1 ?e2_1 ?e3_1, [(Tp, LO [.ref D, .int k' tk'] nT'), (D, LO ys ys.length), (L + 1, oc2)], rfl, fr_ext F' fun y => ?fm, fun x hx => ?nw, fun x hx => ?of, ?oo_1, ?tt_1, r, tm, ?e1_1, ?e2_1, ?e3_1, k', tk', nT', rfl, rfl, hk', ?len, hr⟩
        case fm =>
          unfold lawMap
          ((refine Decidable.byCases (p := y = Str.ofString "octets") (fun hh => by subst hh; rfl) (fun hh => ?_); simp only [ite_sk hh]; try clear hh))
          ((refine Decidable.byCases (p := y = Str.ofString "line") (fun hh => by subst hh; rfl) (fun hh => ?_); simp only [ite_sk hh]; try clear hh))
          ((refine Decidable.byCases (p := y = Str.ofString "ended") (fun hh => by subst hh; rfl) (fun hh => ?_); simp only [ite_sk hh]; try clear hh))
          ((refine Decidable.byCases (p := y = Str.ofString "k") (fun hh => by subst hh; rfl) (fun hh => ?_); simp only [ite_sk hh]; try clear hh))
        case nw =>
          rcases List.mem_cons.mp hx with rfl | hx
          · exact N' _ (by k_mem)
          · exact N6 x hx
        case of =>
          simp only [List.mem_cons, List.not_mem_nil, or_false] at hx
          rcases hx with rfl | rfl | rfl
          · exact hTi
          · exact off _ (.tail _ (.head _))
          · exact off _ (.tail _ (.tail _ (.head _)))
        case len =>
          simp only [List.length_append, List.length_cons, List.length_nil]
          omega
      · (rename Fr _ _ _ _ => F')
        (rename News _ _ _ _ => N')
        (rename List UInt8 => xl)
        obtain ⟨k', tk', nT', hk', N6⟩ := tape_led (d := (D, LO ys ys.length)) (c := (L + 1, oc2)) N' (by k_mem) (by k_mem) (by k_mem) (by omega)
        refine hQ2 _ ?_
        refine ⟨_, _, lawMap m0 ?oo_2 ?tt_2 r tm ?e1_2 ?e2_2 ?e3_2, [(Tp, LO [.ref D, .int k' tk'] nT'), (D, LO ys ys.length), (L + 1, oc2)], rfl, fr_ext F' fun y => ?fm, fun x hx => ?nw, fun x hx => ?of, ?oo_2, ?tt_2, r, tm, ?e1_2, ?e2_2, ?e3_2, k', tk', nT', rfl, rfl, hk', ?len, hr⟩
        case fm =>
          unfold lawMap
          ((refine Decidable.byCases (p := y = Str.ofString "octets") (fun hh => by subst hh; rfl) (fun hh => ?_); simp only [ite_sk hh]; try clear hh))
          ((refine Decidable.byCases (p := y = Str.ofString "line") (fun hh => by subst hh; rfl) (fun hh => ?_); simp only [ite_sk hh]; try clear hh))
          ((refine Decidable.byCases (p := y = Str.ofString "ended") (fun hh => by subst hh; rfl) (fun hh => ?_); simp only [ite_sk hh]; try clear hh))
          ((refine Decidable.byCases (p := y = Str.ofString "k") (fun hh => by subst hh; rfl) (fun hh => ?_); simp only [ite_sk hh]; try clear hh))
        case nw =>
          rcases List.mem_cons.mp hx with rfl | hx
          · exact N' _ (by k_mem)
          · exact N6 x hx
        case of =>
          simp only [List.mem_cons, List.not_mem_nil, or_false] at hx
          rcases hx with rfl | rfl | rfl
          · exact hTi
          · exact off _ (.tail _ (.head _))
          · exact off _ (.tail _ (.tail _ (.head _)))
        case len =>
          simp only [List.length_append, List.length_cons, List.length_nil]
          omega
    · rintro n m led h tk hnK ⟨oct, to, r, tm, me, ml, mk, k, tk, nT, rfl, rfl, hk0, hol, hr⟩ F N
      clear F3 N4
      have hol : oct.length ≤ 240 := by omega
      refine execsC_cons (wpC_mono (wpC_of (Q := fun f s' => HoldW (LawM m0 Tp D L ys oc2 h₀ s f s')) ?a) (fun f s' q => ?b) fun _ _ x => x)
      case a =>
        k_steps
        · (rename Fr _ _ _ _ => F')
          (rename News _ _ _ _ => N')
          obtain ⟨k', tk', nT', hk', N6⟩ := tape_led (d := (D, LO ys ys.length)) (c := (L + 1, oc2)) N' (by k_mem) (by k_mem) (by k_mem) (by omega)
          refine hold_out ⟨rfl, _, _, ?o1, ?t1, r, tm, me, ml, mk, k', tk', nT', rfl, fr_ext F' fun y => ?f1, N6, hk', ?l1⟩
          case f1 =>
            unfold lawMap
            ((refine Decidable.byCases (p := y = Str.ofString "octets") (fun hh => by subst hh; rfl) (fun hh => ?_); simp only [ite_sk hh]; try clear hh))
          case l1 =>
            simp only [List.length_append]
            omega
        · (rename Fr _ _ _ _ => F')
          (rename News _ _ _ _ => N')
          obtain ⟨k', tk', nT', hk', N6⟩ := tape_led (d := (D, LO ys ys.length)) (c := (L + 1, oc2)) N' (by k_mem) (by k_mem) (by k_mem) (by omega)
          exact hold_out ⟨rfl, _, _, oct, to, r, tm, me, ml, mk, k', tk', nT', rfl, F', N6, hk', by omega⟩
        · exact hold_out ⟨rfl, _, _, oct, to, r, tm, me, ml, mk, k, _, nT, rfl, F, N, hk0, by omega⟩
      case b =>
        clear F N
        obtain ⟨rfl, h, tk, oct, to, r, tm, me, ml, mk, k, tk', nT, rfl, F, N, hk0, hol⟩ := q
        refine execsC_cons (wpC_of ?_)
        k_steps
        any_goals (with_reducible refine hold_out (eval_comp ?_))
        any_goals k_steps
        (try (any_goals first | exact (0 : Nat) | exact (Str.ofString "") | exact Value.none))
        rename IsRange _ _ _ _ _ _ _ _ => hR
        rename Fr _ _ _ _ => F'
        rename News _ _ _ _ => N'
        rename (_ : Int) < 15 => hr15
        obtain ⟨oL, hoL⟩ := fr_obj F'
        obtain ⟨k', tk', nT', hk', N6⟩ := tape_led (d := (D, LO ys ys.length)) (c := (L + 1, oc2)) N' (by k_mem) (by k_mem) (by k_mem) (by omega)
        refine core_range2 (h₀ := h₀) (led₀ := [(L, oL), (Tp, LO [.ref D, .int k' tk'] nT'), (D, LO ys ys.length), (L + 1, oc2)]) (J := SomeJ Tp D L ys oc2 oL) (by exact Nat.le_trans F'.above (Nat.le_of_lt F'.ns.lt)) (by exact F'.keep) (fun p hp => ?n0) hR rfl rfl rfl rfl (by decide) (by omega) ⟨_, _, _, [], .nil, (fun n hn => nomatch hn), Nat.le_refl _, hk', rfl⟩ (fun H2 => ?turn) ?fin
        case n0 =>
          rcases List.mem_cons.mp hp with rfl | hp
          · exact ⟨hoL, Heap.get?_none_of_le F'.above⟩
          · exact ⟨(N6 p hp).1, (N6 p hp).2.2⟩
        case turn =>
          rintro i v zs led h2 tk2 m2 oI C D2 ⟨hi2, tv, rfl⟩ ⟨k2, tk3, nT3, ns2, hzs, hns, hzl, hk2, rfl⟩ F2 N2 off
          have hT1 : @Ne Nat Tp _ := (off _ (.tail _ (.head _))).1
          have hT2 : @Ne Nat Tp D2 := (off _ (.tail _ (.head _))).2
          have hT3 : @Ne Nat Tp L := (N6 _ (.head _)).2.1
          dsimp only at hT1
          refine assign_one F2 N2 rfl rfl fun h3 tk4 G M => ?_
          refine wpAny_tests_nil ?_
          clear F2 N2 N' N6 F'
          k_steps
          (rename Fr _ _ _ _ => F')
          (rename News _ _ _ _ => N')
          obtain ⟨k3, tk5, nT5, hk3, N8⟩ := tape_led (d := (D, LO ys ys.length)) (c := (L + 1, oc2)) N' (by k_mem) (by k_mem) (by k_mem) (by omega)
          refine ⟨_, _, _, [(L, oL), (Tp, LO [.ref D, .int k3 tk5] nT5), (D, LO ys ys.length), (L + 1, oc2)], rfl, F', fun x hx => ?nw2, fun x hx => ?of2, k3, tk5, nT5, ns2 ++ [_], hzs.append (.cons _ _ .nil), fun n hn => ?sm, by rw [List.length_append, List.length_singleton]; omega, hk3, rfl⟩
          case nw2 =>
            rcases List.mem_cons.mp hx with rfl | hx
            · exact N' _ (by k_mem)
            · rcases List.mem_cons.mp hx with rfl | hx
              · exact N' _ (by k_mem)
              · rcases List.mem_cons.mp hx with rfl | hx
                · exact N' _ (by k_mem)
                · exact N8 x hx
          case of2 =>
            simp only [List.mem_cons, List.not_mem_nil, or_false] at hx
            rcases hx with rfl | rfl | rfl | rfl
            · exact off _ (.head _)
            · exact ⟨hT1, hT2⟩
            · exact off _ (.tail _ (.tail _ (.head _)))
            · exact off _ (.tail _ (.tail _ (.tail _ (.head _))))
          case sm =>
            rcases List.mem_append.mp hn with hn | hn
            · exact hns n hn
            · rw [List.mem_singleton.mp hn]
              exact menu_small (by decide) _
        case fin =>
          rintro C D2 zs led h2 tk2 m2 ⟨k2, tk3, nT3, ns2, hzs, hns, hzl, hk2, rfl⟩ F2 N2 off
          refine post_none2 (use := none) F' hoL F2 N2 (.head _) ?_
          intro h3 F3 N3
          have N7 : News h₀ L h3 [(D2, LCg.lst zs), (Tp, LO [.ref D, .int k2 tk3] nT3), (D, LO ys ys.length), (L + 1, oc2)] := fun x hx => by
            simp only [List.mem_cons, List.not_mem_nil, or_false] at hx
            rcases hx with rfl | rfl | rfl | rfl
            · exact ⟨(N3 _ (.head _)).1, Ne.symm (off _ (.head _)), (N3 _ (.head _)).2⟩
            · exact ⟨(N3 _ (by k_mem)).1, (N6 _ (.head _)).2.1, (N3 _ (by k_mem)).2⟩
            · exact ⟨(N3 _ (by k_mem)).1, (N6 _ (.tail _ (.head _))).2.1, (N3 _ (by k_mem)).2⟩
            · exact ⟨(N3 _ (by k_mem)).1, (N6 _ (.tail _ (.tail _ (.head _)))).2.1, (N3 _ (by k_mem)).2⟩
          have hnl : ns2.length ≤ 14 := by rw [← hzs.length]; omega
          clear F2 N2 N' N6 F' N3 off
          k_steps
          have hso : (List.map (fun (n : Int) => n.toNat.toUInt8) ns2).length ≤ 14 := by rw [List.length_map]; exact hnl
          rename Fr _ _ _ _ => F5
          generalize List.map (fun (n : Int) => n.toNat.toUInt8) ns2 = so at hso F5
          refine execsC_cons (ifC (isTrueOrC (isTrueNotC (isTruePlainC (callNameC ?_)))))
          k_steps
          rename Fr _ _ _ _ => F5
          refine callDefC (F5.keep _ _ (X 101 _ rfl)) rfl rfl ?_
          show wpC _ _ (spliced [(false, eval _ _)]) _ _ _
          refine splicedC_cons (wpC_of ?_)
          k_steps
          rename Fr _ _ _ _ => F5
          rename News _ _ _ _ => N5
          refine splicedC_nil ⟨F5.keep _ _ (X 101 _ rfl), ?_⟩
          refine use_call_c (lright_ok (by exact (Base.mk X T).keeps F5.keep) hd6 hu3 _ _ (by omega)) F5 N5 ?_
          clear F5 N5
          intro v h6 tk6 F5 N5 e6 hv
          subst hv
          refine wpAny_of_eq (a := true) rfl ⟨fun q => (nomatch q), fun _ => ?_⟩
          refine isTrueOrC (isTrueNotC (isTruePlainC (callNameC ?_)))
          k_steps
          rename Fr _ _ _ _ => F5
          refine callDefC (F5.keep _ _ (X 96 _ rfl)) rfl rfl ?_
          show wpC _ _ (spliced [(false, eval _ _)]) _ _ _
          refine splicedC_cons (wpC_of ?_)
          k_steps
          rename Fr _ _ _ _ => F5
          rename News _ _ _ _ => N5
          refine splicedC_nil ⟨F5.keep _ _ (X 96 _ rfl), ?_⟩
          refine use_call_c (rright_ok (by exact (Base.mk X T).keeps F5.keep) hd6 hu3 _ _ (by omega)) F5 N5 ?_
          clear F5 N5
          intro v h6 tk6 F5 N5 e6 hv
          subst hv
          refine wpAny_of_eq (a := true) rfl ⟨fun q => (nomatch q), fun _ => ?_⟩
          refine wpC_of (isTrue_or_nil ⟨fun q => (nomatch q), fun _ => execsC_nil ?_⟩)
          refine execsC_cons (returnC (evalAndC ?_))
          show wpC _ _ (boolOp _ .And [eval _ _, eval _ _, eval _ _]) _ _ _
          refine boolAndC (callNameC ?_)
          k_steps
          rename Fr _ _ _ _ => F5
          refine callDefC (F5.keep _ _ (X 101 _ rfl)) rfl rfl ?_
          show wpC _ _ (spliced [(false, eval _ _)]) _ _ _
          refine splicedC_cons (wpC_of ?_)
          k_steps
          rename Fr _ _ _ _ => F5
          rename News _ _ _ _ => N5
          refine splicedC_nil ⟨F5.keep _ _ (X 101 _ rfl), ?_⟩
          refine use_call_c (lright_ok (by exact (Base.mk X T).keeps F5.keep) hd6 hu3 _ _ (by omega)) F5 N5 ?_
          clear F5 N5
          intro v h6 tk6 F5 N5 e6 hv
          subst hv
          refine ⟨true, rfl, fun _ => ?_, fun q => (nomatch q)⟩
          refine boolAndC (callNameC ?_)
          k_steps
          rename Fr _ _ _ _ => F5
          refine callDefC (F5.keep _ _ (X 96 _ rfl)) rfl rfl ?_
          show wpC _ _ (spliced [(false, eval _ _)]) _ _ _
          refine splicedC_cons (wpC_of ?_)
          k_steps
          rename Fr _ _ _ _ => F5
          rename News _ _ _ _ => N5
          refine splicedC_nil ⟨F5.keep _ _ (X 96 _ rfl), ?_⟩
          refine use_call_c (rright_ok (by exact (Base.mk X T).keeps F5.keep) hd6 hu3 _ _ (by (simp only [List.length_append, List.length_cons, List.length_nil]); omega)) F5 N5 ?_
          clear F5 N5
          intro v h6 tk6 F5 N5 e6 hv
          subst hv
          refine ⟨true, rfl, fun _ => ?_, fun q => (nomatch q)⟩
          show wpC _ _ (eval _ _) _ _ _
          refine callNameC ?_
          k_steps
          rename Fr _ _ _ _ => F5
          refine callDefC (F5.keep _ _ (X 96 _ rfl)) rfl rfl ?_
          show wpC _ _ (spliced [(false, eval _ _)]) _ _ _
          refine splicedC_cons (wpC_of ?_)
          k_steps
          rename Fr _ _ _ _ => F5
          rename News _ _ _ _ => N5
          refine splicedC_nil ⟨F5.keep _ _ (X 96 _ rfl), ?_⟩
          refine use_call_c (rright_ok (by exact (Base.mk X T).keeps F5.keep) hd6 hu3 _ _ (by (simp only [List.length_append, List.length_cons, List.length_nil]); omega)) F5 N5 ?_
          clear F5 N5
          intro v h6 tk6 F5 N5 e6 hv
          subst hv
          refine hQQ _ _ ?_
          exact ⟨_, _, rfl, F5.keep, rfl⟩

/-! F14 -/
theorem len63 {vs : List Value} {ns : List Int} (hI : IntsAre vs ns) (hc : ¬ ((63 : Nat) : Int) < ((ns.length : Nat) : Int)) : vs.length ≤ 63 := by
  have hlen := hI.length
  omega
theorem walk_ok : PySem.Challenge.rw_pb0511_01.Holds := Head.hd (by
  intro w s₀ s₁ mg mb G Y fa o pm cd doc dV kV ho hd hcd hD hmg hg args vals as hpre hlay hrd hwl hlo
  have KX := kIn_of Y
  refine Ground.open G ?_
  intro T B D TE TW
  have h106 : mg (Str.ofString "law") = some (.ref 106) := mg_of KX T.g rfl
  have hfa : fa = 106 := by
    have := hmg.symm.trans h106
    cases this; rfl
  subst hfa
  clear h106 hmg ho hd hcd hD
  wrow_args hpre hlay hrd hwl hlo
  rename Heap.IsList _ _ _ => hL
  rename IntsAre _ _ => hI
  have hn := len63 hI (by first | assumption | omega)
  have key := law_ok (w := w) (mean := ExcName.means s₀.heap) (mg := mg) (mb := mb) (s := s₁) ⟨KX, T⟩ (dp := 1 + claimMargin) (un := 4) (fr := some []) (by decide) (by decide) hL hI hn
  refine wpC_mono key (fun v s' q => ?_) fun _ _ x => x.elim
  obtain ⟨h, tk, rfl, e, rfl⟩ := q
  exact ⟨.inl ⟨.bool true, .bool true, [], rfl, fun _ => rfl, .bool true, postW_of (by wrow_shape) (by wtm_val) (by w_fin), fun _ => ⟨List.nodup_nil, fun a ha => (nomatch ha)⟩⟩, .of_keep e, rfl, .of_eq hg⟩)

end
end Mine
end WalkS

set_option maxRecDepth 100000 in
set_option maxHeartbeats 8000000 in
theorem PySem.Challenge.cw_pb0511_01_holds : PySem.Challenge.rw_pb0511_01.Holds :=
  Mine.walk_ok
