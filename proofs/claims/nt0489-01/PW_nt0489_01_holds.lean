import PyProof.Rows.All
import Wide.All
import OpenK.AllK
import Wide.FinOn
import PySem.Challenge.RW_nt0489_01
open PySem PySem.W PyProof.Rows PySem.Calls
set_option Elab.async false
set_option maxRecDepth 100000
set_option maxHeartbeats 8000000
set_option compiler.extract_closed false
set_option linter.all false
set_option pp.deepTerms false
set_option pp.deepTerms.threshold 3
namespace Mine
section
open Sem (wp)
/-- a code that may hold a bytearray's buffer while it stands on the stack -/
def hlds : Code → Bool
  | .builtin id _ => (["bytearray.__contains__", "bytearray.__mod__", "bytearray.__rmod__", "_struct.pack_into.held", "bytearray.find.held"] ++ Builtin.Bytes.decodersThatHold).contains id
  | _ => false
structure Cl (Γ : Ctx) : Prop where
  code : hlds Γ.code = false
  below : ∀ x ∈ Γ.below, hlds x.1 = false
def wpC {α : Type} (M : Model) (A : Around) (t : Sem α) (Q : α → Shared → Prop) (E : Value → Shared → Prop) (s : Shared) : Prop :=
  ∀ Γ p, Γ.In A → Cl Γ → wp M Γ t (fun a _ s' => Q a s') (fun e _ s' => E e s') p s
def codeC (M : Model) (A : Around) (c : Code) (R : Result → Shared → Prop) (s : Shared) : Prop :=
  ∀ Γ p, Γ.code = c → Γ.Below A → (∀ x ∈ Γ.below, hlds x.1 = false) → wpCode M Γ R p s
section
variable {α β : Type} {M : Model} {A : Around} {E : Value → Shared → Prop} {s : Shared}
theorem wpC_any {t : Sem α} {Q : α → Shared → Prop} (h : wpAny M A t Q E s) : wpC M A t Q E s := fun Γ p hi _ => h Γ p hi
theorem codeC_any {c : Code} {R : Result → Shared → Prop} (h : codeAny M A c R s) : codeC M A c R s := fun Γ p hc hb _ => h Γ p hc hb
theorem wpC_pure {a : α} {Q : α → Shared → Prop} (h : Q a s) : wpC M A (pure a) Q E s := fun _ _ _ _ => h
theorem wpC_throw {e : Value} {Q : α → Shared → Prop} (h : E e s) : wpC M A (throw e : Sem α) Q E s := fun _ _ _ _ => h
theorem wpC_mono {t : Sem α} {Q Q' : α → Shared → Prop} {E' : Value → Shared → Prop} (h : wpC M A t Q E s)
    (hQ : ∀ a s, Q a s → Q' a s) (hE : ∀ e s, E e s → E' e s) : wpC M A t Q' E' s :=
  fun Γ p hi hc => Sem.wp_mono M Γ t (fun a _ s => hQ a s) (fun e _ s => hE e s) p s (h Γ p hi hc)
theorem wpC_bind {m : Sem α} {f : α → Sem β} {Q : β → Shared → Prop} (h : wpC M A m (fun a s' => wpC M A (f a) Q E s') E s) :
    wpC M A (m >>= f) Q E s := fun Γ p hi hc => by
  rw [Sem.wp_bind']
  exact Sem.wp_mono M Γ m (fun a p' s' h' => h' Γ p' hi hc) (fun _ _ _ h' => h') p s (h Γ p hi hc)
/-- a first part by the library's rules, what follows in this logic -/
theorem wpC_bindA {m : Sem α} {f : α → Sem β} {Q : β → Shared → Prop} (h : wpAny M A m (fun a s' => wpC M A (f a) Q E s') E s) :
    wpC M A (m >>= f) Q E s := wpC_bind (wpC_any h)
theorem wpC_map {m : Sem α} {f : α → β} {Q : β → Shared → Prop} (h : wpC M A m (fun a s' => Q (f a) s') E s) :
    wpC M A (f <$> m) Q E s := fun Γ p hi hc => by rw [Sem.wp_map]; exact h Γ p hi hc
theorem wpC_onRaise {m : Sem α} {k : Value → Sem Unit} {Q : α → Shared → Prop}
    (h : wpC M A m Q (fun e s' => wpC M A (k e) (fun _ s'' => E e s'') E s') s) : wpC M A (m.onRaise k) Q E s := fun Γ p hi hc => by
  rw [Sem.wp_onRaise]
  exact Sem.wp_mono M Γ m (fun _ _ _ h' => h') (fun e p' s' h' => h' Γ p' hi hc) p s (h Γ p hi hc)
theorem wpC_tryCatch {m : Sem α} {k : Value → Sem α} {Q : α → Shared → Prop} (h : wpC M A m Q (fun e s' => wpC M A (k e) Q E s') s) :
    wpC M A (tryCatch m k) Q E s := fun Γ p hi hc => by
  rw [Sem.wp_tryCatch']
  exact Sem.wp_mono M Γ m (fun _ _ _ h' => h') (fun e p' s' h' => h' Γ p' hi hc) p s (h Γ p hi hc)
theorem wpC_attempt {m : Sem α} {Q : Except Value α → Shared → Prop} (h : wpC M A m (fun a => Q (.ok a)) (fun e => Q (.error e)) s) :
    wpC M A m.attempt Q E s := fun Γ p hi hc => by rw [Sem.wp_attempt]; exact h Γ p hi hc
theorem wpC_holding {vs : List Value} {m : Sem α} {Q : α → Shared → Prop} (h : wpC M A m Q E s) : wpC M A (holding vs m) Q E s :=
  fun Γ p hi hc => by rw [Sem.wp_holding]; exact h Γ p hi hc
theorem wpC_keep {vs : List Value} {m : Sem α} {Q : α → Shared → Prop} (h : wpC M A m Q E s) : wpC M A (m.keep vs) Q E s :=
  fun Γ p hi hc => by rw [Sem.wp_keep]; exact h Γ p hi hc
theorem wpC_standAt {pos : Pos} {Q : Unit → Shared → Prop} (h : Q () s) : wpC M A (standAt pos) Q E s := fun _ _ _ _ => h
theorem wpC_rule {tag : String} {Q : Unit → Shared → Prop} (h : Q () s) : wpC M A (rule tag) Q E s := fun _ _ _ _ => h
theorem wpC_point {Q : Unit → Shared → Prop} (h : Q () s) : wpC M A point Q E s := fun _ _ _ _ => h
theorem wpC_load {a : Addr} {o : Obj} {Q : Obj → Shared → Prop} (ho : s.heap.get? a = some o) (h : Q o s) : wpC M A (load a) Q E s := wpC_any (wpAny_load ho h)
theorem wpC_of_eq {t t' : Sem α} {Q : α → Shared → Prop} (e : t = t') (h : wpC M A t' Q E s) : wpC M A t Q E s := by rw [e]; exact h
theorem cl_enter {Γ : Ctx} (h : Cl Γ) (c : Code) (hd : Option Value) (p : Pos) : ∀ x ∈ (Γ.enter c hd p).below, hlds x.1 = false := by
  intro x hx
  rcases List.mem_cons.mp hx with rfl | hx
  · exact h.code
  · exact h.below x hx
theorem wpC_run {c : Code} {h : Option Value} {Q : Flow → Shared → Prop}
    (hc : codeC M (A.mark h) c (fun r s' => match r with | .ok f => Q f s' | .error e => E e s') s) (hnb : h ≠ some byPass := by intro x; cases x) :
    wpC M A (run c h) Q E s :=
  fun Γ p hΓ hcl => by rw [Sem.wp_run]; exact hc _ p rfl (hΓ.enter c h p hnb) (cl_enter hcl c h p)
theorem wpC_runValue {c : Code} {Q : Value → Shared → Prop}
    (hc : codeC M A c (fun r s' => match r with | .ok (.ret v) => Q v s' | .ok _ => False | .error e => E e s') s) :
    wpC M A (runValue c) Q E s := fun Γ p hΓ hcl => by rw [Sem.wp_runValue]; exact hc _ p rfl (hΓ.enter c none p (by intro x; cases x)) (cl_enter hcl c none p)
theorem wpC_call {f : Value} {pos : List Value} {kw : List (Str × Value)} {Q : Value → Shared → Prop}
    (hc : codeC M A (.call f ⟨pos, kw⟩) (fun r s' => match r with | .ok (.ret v) => Q v s' | .ok _ => False | .error e => E e s') s) :
    wpC M A (call f pos kw) Q E s := wpC_runValue hc
/-- what the tree of a code must come to -/
abbrev FinC (M : Model) (A : Around) (R : Result → Shared → Prop) (fin : Fin) (s' : Shared) : Prop :=
  match fin with | .done f => R (.ok f) s' | .again c' => c'.quiet = true ∧ codeC M A c' R s'
theorem codeC_of_tree {c : Code} {R : Result → Shared → Prop} (hh : hlds c = false)
    (h : wpC M (A.under c) (M.den c) (FinC M A R) (fun e s' => R (.error e) s') s) : codeC M A c R s := fun Γ p hc hΓ hb => by
  rw [wpCode_iff_wp, hc]
  refine Sem.wp_mono M Γ _ (fun fin p' s' h' => ?_) (fun _ _ _ h' => h') p s (h Γ p (hc ▸ hΓ.in) ⟨by rw [hc]; exact hh, hb⟩)
  cases fin with
  | done f => exact h'
  | again c' => exact ⟨h'.1, h'.2 (Γ.goto c') p' rfl (hΓ.goto c') hb⟩
theorem codeC_mono {c : Code} {R R' : Result → Shared → Prop} (h : codeC M A c R s) (hR : ∀ r s, R r s → R' r s) : codeC M A c R' s :=
  fun Γ p hc hΓ hb => wpCode_mono hR (h Γ p hc hΓ hb)
theorem codeC_loop {c : Code} {R : Result → Shared → Prop} (hq : c.quiet = true) (hh : hlds c = false) (I : Nat → Shared → Prop)
    (turn : ∀ n s, I n s → wpC M (A.under c) (M.den c)
      (fun fin s' => match fin with | .done f => R (.ok f) s' | .again c' => (c' = c ∧ ∃ m, m < n ∧ I m s') ∨ (c'.quiet = true ∧ codeC M A c' R s')) (fun e s' => R (.error e) s') s)
    (n : Nat) (h : I n s) : codeC M A c R s := by
  induction n using Nat.strongRecOn generalizing s with
  | ind n ih =>
    refine codeC_of_tree hh (wpC_mono (turn n s h) (fun fin s' hf => ?_) fun _ _ h' => h')
    cases fin with
    | done f => exact hf
    | again c' =>
      rcases hf with ⟨rfl, m, hm, hI⟩ | hf
      · exact ⟨hq, ih m hm hI⟩
      · exact hf
theorem hlds_builtin {id : String} {a : Args} (h : hlds (.builtin id a) = false) : id ≠ "bytearray.__contains__" ∧ id ≠ "bytearray.__mod__" ∧ id ≠ "bytearray.__rmod__" ∧ id ≠ "_struct.pack_into.held" ∧ id ≠ "bytearray.find.held" ∧ Builtin.Bytes.decodersThatHold.contains id = false := by
  unfold hlds at h
  simp only [List.contains_append, Bool.or_eq_false_iff, List.contains_cons, beq_eq_false_iff_ne, ne_eq] at h
  exact ⟨h.1.1, h.1.2.1, h.1.2.2.1, h.1.2.2.2.1, h.1.2.2.2.2.1, h.2⟩
theorem exported_no {self : Value} (x : Code × Pos) (hxf : hlds x.1 = false) : (Builtin.Bytes.exported.match_1 (fun _ => Bool) x (fun v _ _ _ => Builtin.Bytes.sameRef v self) (fun v _ _ _ => Builtin.Bytes.sameRef v self) (fun _ v _ _ _ => Builtin.Bytes.sameRef v self) (fun v _ _ _ => Builtin.Bytes.sameRef v self) (fun _ _ held _ _ => held.any (Builtin.Bytes.sameRef self))
   (fun id v _ _ _ => Builtin.Bytes.sameRef v self && Builtin.Bytes.decodersThatHold.contains id) (fun _ => false)) = false := by
  obtain ⟨c, q⟩ := x
  cases c
  case builtin id a =>
    obtain ⟨h1, h2, h3, h4, h5, h6⟩ := hlds_builtin hxf
    obtain ⟨pos, kw⟩ := a
    delta Builtin.Bytes.exported.match_1 Builtin.Bytes.exported._sparseCasesOn_1
    dsimp only
    rw [dif_neg h1, dif_neg h2, dif_neg h3, dif_neg h4, dif_neg h5]
    cases pos with
    | nil => rfl
    | cons v l => exact (congrArg (Builtin.Bytes.sameRef v self && ·) h6).trans (Bool.and_false _)
  all_goals rfl
/-- the one thing that the library's logic cannot say: no one holds the bytearray -/
theorem wpC_exported{self : Value} {Q : Bool → Shared → Prop} (h : Q false s) : wpC M A (Builtin.Bytes.exported self) Q E s := fun Γ p _ hc => by
  refine Eq.mpr (congrArg (fun b => Q b s) (?e : _ = false)) h
  rw [List.any_eq_false]
  intro x hx
  have hxf : hlds x.1 = false := by
    rcases List.mem_cons.mp hx with rfl | hx
    · exact hc.code
    · exact hc.below x hx
  exact ne_true_of_eq_false (exported_no x hxf)
end
end
section
open Sem (wp)
theorem cl_caller : Cl ⟨.builtin "claim.caller" {}, none, none, [], none⟩ := ⟨by decide +kernel, fun _ h => nomatch h⟩
/-- a thread under the claim's caller, from a proof in the logic of clean contexts -/
theorem thread_C {prog : Program} {w : World} {t : Sem Fin} {s : Shared} {R : Result → Shared → Prop} (hreg : s.asleep)
    (h : wpC (model prog w) callerA t (fun fin s' => ∃ f, fin = .done f ∧ (R (.ok f) s' ∧ leftWithCleanup s'.gens = false)) (fun e s' => R (.error e) s' ∧ leftWithCleanup s'.gens = false) s) :
    ∃ n r s' s'', runN (denote table) prog w n s ⟨t, .builtin "claim.caller" {}, default, []⟩ = .halted (outcomeOf r) s' ∧
      schedN (denote table) prog w n (.single s ⟨t, .builtin "claim.caller" {}, default, []⟩) = .halted (outcomeOf r) s' ∧ s'.forget = s''.forget ∧ R r s'' := by
  have hw : wp (model prog w) ⟨.builtin "claim.caller" {}, none, none, [], none⟩ t
      (Sem.finPost (model prog w) ⟨.builtin "claim.caller" {}, none, none, [], none⟩ fun r s' => R r s' ∧ leftWithCleanup s'.gens = false)
      (fun e _ s' => R (.error e) s' ∧ leftWithCleanup s'.gens = false) default s := by
    refine Sem.wp_mono _ _ t (fun fin p' s' h' => ?_) (fun _ _ _ h' => h') default s (h _ default caller_in cl_caller)
    obtain ⟨f, rfl, hf⟩ := h'
    exact hf
  obtain ⟨n, r, s₁, s₂, hs, hn, hfo, hR⟩ := wp_halts_full (M := model prog w) (R := R) hreg hw
  exact ⟨n, r, s₂, s₁, hn, hs, hfo, hR⟩
theorem callFrom_C {c : ClaimW} {tree : List Value → Sem Fin} {w : World} {s : Shared} {free : Addr → Prop} {gens : Prop} {kept : Heap → Prop} (hz : s.asleep) (hgens : s.gens = #[])
    (hspec : ∀ args, c.pre args = true → WData.layableAll args = true →
      ∀ ord : List DictEntry → List DictEntry, (∀ l, (ord l).Perm l) →
      ∃ vs s₁, layAllW c.records (classAt s.heap) w.params ord args s = some (vs, s₁) ∧
        wpC (model c.prog w) callerA (tree vs) (fun fin s' => ∃ f, fin = .done f ∧ (c.Ends s args vs s₁ (.ok f) s' ∧ s'.os = s.os ∧ AllBare s'.gens ∧ kept s'.heap))
          (fun e s' => c.Ends s args vs s₁ (.error e) s' ∧ s'.os = s.os ∧ AllBare s'.gens ∧ kept s'.heap) s₁) :
    c.CallFrom (fun vs => ⟨tree vs, .builtin "claim.caller" {}, default, []⟩) w free gens kept s := by
  intro args hpre hlay ord hord
  obtain ⟨vs, s₁, hlaid, hcode⟩ := hspec args hpre hlay ord hord
  have hal := layAllW_rest _ _ _ hlaid
  obtain ⟨k, r, s', s'', hrun, hsched, hfo, hcase, hos, hkp⟩ := thread_C (prog := c.prog) (w := w) (t := tree vs) (s := s₁)
    (R := fun r s' => c.Ends s args vs s₁ r s' ∧ s'.os = s.os ∧ kept s'.heap)
    (Shared.asleep_of_life hal.2.2.2 hz)
    (wpC_mono hcode (by
      rintro fin s' ⟨f, e, h1, h2, h3, h4⟩
      exact ⟨f, e, ⟨h1, h2, h4⟩, leftWithCleanup_false_of_bare h3⟩) (by
      rintro e s' ⟨h1, h2, h3, h4⟩
      exact ⟨⟨h1, h2, h4⟩, leftWithCleanup_false_of_bare h3⟩))
  obtain ⟨eh, _, _, eo, _⟩ := Shared.forget_eq hfo
  have hcase := hcase.congr eh
  have hkp : kept s'.heap := by first | exact eh ▸ hkp | (rw [eh] at hkp; exact hkp) | (rw [← eh] at hkp; exact hkp)
  rw [← eo] at hos
  have hlife : s'.heap.life = s.heap.life := (runN_life _ _ _ hrun).trans hal.2.2.2
  refine ⟨vs, s₁, hlaid, k, _, s', hsched, ?_, (fun _ i x hx => by rw [hgens] at hx; simp at hx), hkp, by rw [hlife], Shared.rest_eq hos⟩
  rcases hcase with ⟨v, rfl, d1, d2, d3, d4, d5⟩ | ⟨e, ob, cls, rfl, d1, d2, d3, d4, d5⟩
  · exact .inl ⟨v, rfl, d1, d2, d3, fun b o y _ => d4 b o y, d5⟩
  · exact .inr ⟨e, ob, cls, rfl, d1, d2, d3, d4, fun b o y _ => d5 b o y⟩
abbrev WalkC (q : Program) (loose : List Str) (XP : (Str → Option Value) → Heap → Prop) (YP : World → Heap → Prop) (r : RowW) (d : DefRec) (kwd : List (Str × Expr)) : Prop :=
  ∀ (w : World) (s₀ s₁ : Shared) (mg mb : Str → Option Value), Ground q loose r.records XP w s₀ mg mb s₁.heap → YP w s₁.heap → ∀ (a : Addr) (o : Obj) (pm cd doc dV kV : Value), s₁.heap.get? a = some o →
    o.data = .func { docDef d.name d.params d.body d.scope pm cd doc with defaults := dV, kwdefaults := kV } → s₁.heap.CodeRec cd d.name → Dflts mg s₁.heap d.params kwd dV kV → mg d.name = some (.ref a) → s₁.gens = #[] →
    ∀ (args : List WData) (vals : List Value) (as : List Addr), r.claim.pre args = true → WData.layableAll args = true → ReadsAllW r.records (classAt s₀.heap) s₁.heap vals args as → WellAll w.params s₁.heap vals args → (∀ a ∈ as, (a == sysModules) = false) →
      wpC (model r.prog w) callerA (PySem.call (.ref a) vals) (fun v s' => GoodWG r.claim (classAt s₀.heap) (ExcName.means s₀.heap) args s₁ (.ok (.ret v)) s')
        (fun e s' => GoodWG r.claim (classAt s₀.heap) (ExcName.means s₀.heap) args s₁ (.error e) s') s₁
/-- the head of an open law, its call in the logic of clean contexts (the argument list is that of the library's head) -/
theorem PySem.W.holds_open {r : OpenRow} {q : Program} {loose : List Str} {Xt : Shared → Bool} {XP : (Str → Option Value) → Heap → Prop} {α : Type} {Yf : Shared → α} {Ya : World → α} {YP : World → Heap → Prop} {d : DefRec} {kwd : List (Str × Expr)} {N : Nat}
    (left : LeftO r.prog q loose Xt Yf Ya N) (hY : ∀ w s, Yf s = Ya w → YP w s.heap) (hYk : ∀ w h h', YP w h → (∀ b o, h.get? b = some o → h'.get? b = some o) → YP w h')
    (hX : ∀ s, Xt s = true → XP (s.heap.nsMap mainGlobals) s.heap) (hXk : ∀ mg h h', XP mg h → (∀ b o, h.get? b = some o → h'.get? b = some o) → XP mg h')
    (hdef : defOf q r.name = some (d, kwd)) (hp : r.prog.theDef r.name = some (d.params, d.body, d.scope)) (hk : kwWritten? d.params.kwonlyargs d.params.kw_defaults = some kwd) (hRf : ∀ s, Xt s = true → RecFacts r.records s.heap) (hwr : (!r.writes || r.records.isEmpty) = true)
    (k1 : r.wellSaid = true) (ok : (chainsOk q && opensWell r.prog && (frees r.toRowW && r.within.isEmpty)) = true) (hb : r.prog.bare) (hw : r.toRowW.promised)
    (call : WalkC q loose XP YP r.toRowW d kwd) : r.Holds := by
  refine ⟨k1, hw, ?_⟩
  obtain ⟨ok, k5⟩ := Bool.and_eq_true_iff.mp ok
  obtain ⟨hch, o1⟩ := Bool.and_eq_true_iff.mp ok
  obtain ⟨k5, k6⟩ := Bool.and_eq_true_iff.mp k5
  obtain ⟨hsame, hu, ha, hap, hm⟩ := frees_parts k5
  have pin : ∀ w s, s.heap.isNs mainGlobals = true → Ground q loose [] XP w s (s.heap.nsMap mainGlobals) (s.heap.nsMap builtinsNs) s.heap → ∀ n ∈ (if r.pinned then [r.name] else []), isTheDefsW r.prog s.heap n := by
    intro w s hg G n hn
    obtain rfl : n = r.name := by split at hn <;> simp_all
    exact pinned_of_view hg G hdef hp hk
  refine ⟨⟨hb, o1, by show r.makers.map _ = []; rw [hm]; rfl⟩, hw.witness, fun w => ⟨(left.behind hX hch w).1, fun s' hs' => ?_⟩⟩
  obtain ⟨s₀, hf, hg0, s, hT, hz, hgens, hg, G00, y⟩ := (left.behind (XP := fun mg h => XP mg h ∧ RecFacts r.records h) (fun s hs => ⟨hX s hs, hRf s hs⟩) hch w).2 s' hs'
  have G0 : Ground q loose [] XP w s (s.heap.nsMap mainGlobals) (s.heap.nsMap builtinsNs) s.heap := ⟨G00.T, G00.B, G00.D, G00.TE, G00.TD, G00.W, G00.X.1, G00.cls, G00.has, G00.apart, G00.once, G00.K⟩
  have RF := G00.X.2
  have hT' := hT
  refine ⟨s₀, hf, hg0, s, hT, pin w s hg G0, RF.1, RF.2.1, ?_⟩
  have hgens : s.gens = #[] := Array.eq_empty_of_size_eq_zero (beq_iff_eq.mp hgens)
  have G : Ground q loose r.records XP w s _ _ s.heap := RF.ground G0
  refine callFrom_C (c := r.claim) (tree := fun vs => do match ← nsGet mainNs r.name with
      | some f => do ret (← PySem.call f vs)
      | none => unsupported "claim.caller:no-such-global") hz hgens fun args hpre hlay ord hord => ?_
  obtain ⟨⟨vs, s₁⟩, hlaid⟩ := Option.isSome_iff_exists.mp (layAllW_isSome (P := w.params) (ord := ord) G.has args r.args s (pre_splitW hpre).1)
  have keeps := layAllW_keeps _ _ _ hlaid
  have hal := layAllW_rest _ _ _ hlaid
  obtain ⟨as, hrd, hin, hold⟩ := reads_layAllW hord _ _ _ hlaid hlay s₁.heap (fun _ _ e => e)
  have L : Laid r.records w s s₁ args vs as := ⟨⟨ord, hord, hlaid⟩, hrd, hin, hold, keeps, hal.1.trans hgens, hal.2.2.1⟩
  have G₁ := G.keeps hXk keeps
  obtain ⟨a, o, pm, cd, doc, dV, kV, h1, h2, h3, h4, h5⟩ := G₁.fn hdef
  have h := call w s s₁ _ _ G₁ (hYk _ _ _ (hY w s y) keeps) a o pm cd doc dV kV h2 h3 h4 h5 (defOf_name hdef ▸ h1) L.gens args vs as hpre hlay L.reads L.well (L.low G.low)
  have hi := ident_freeW hu ha hap
  have hwi : r.claim.within = [] := List.isEmpty_iff.mp k6
  refine ⟨vs, s₁, hlaid, ?_⟩
  refine wpC_bind (wpC_any (wpAny_nsGet G₁.T.g ?_))
  rw [h1]
  refine wpC_bind (wpC_mono h (fun v s' g => wpC_pure ⟨_, rfl, ?_⟩) fun e s' g => ?_)
  · have z := g.laid (c := r.claim) hsame hwi hi L
    exact ⟨z.1, z.2.1, z.2.2, fun q => ⟨namesKept_of hT' hg _ keeps g.2.1.old, noTable hwr q⟩⟩
  · have z := g.laid (c := r.claim) hsame hwi hi L
    exact ⟨z.1, z.2.1, z.2.2, fun q => ⟨namesKept_of hT' hg _ keeps g.2.1.old, noTable hwr q⟩⟩
end
section
namespace Mine0
theorem ws : PySem.Challenge.rw_nt0489_01.wellSaid = true := by decide +kernel
local macro_rules | `(tactic| o_law) => `(tactic| refine holds_law ws fun said => ?_)
/-- never used: it stands so that the head's constants are made and its run in pieces is not -/
theorem PySem.W.holds_open {r : OpenRow} {q : Program} {loose : List Str} {Xt : Shared → Bool} {XP : (Str → Option Value) → Heap → Prop} {α : Type} {Yf : Shared → α} {Ya : World → α} {YP : World → Heap → Prop} {d : DefRec} {kwd : List (Str × Expr)} {N : Nat}
    (left : False) (hY : ∀ w s, Yf s = Ya w → YP w s.heap) (hYk : ∀ w h h', YP w h → (∀ b o, h.get? b = some o → h'.get? b = some o) → YP w h')
    (hX : ∀ s, Xt s = true → XP (s.heap.nsMap mainGlobals) s.heap) (hXk : ∀ mg h h', XP mg h → (∀ b o, h.get? b = some o → h'.get? b = some o) → XP mg h')
    (hdef : defOf q r.name = some (d, kwd)) (hp : r.prog.theDef r.name = some (d.params, d.body, d.scope)) (hk : kwWritten? d.params.kwonlyargs d.params.kw_defaults = some kwd) (hRf : ∀ s, Xt s = true → RecFacts r.records s.heap) (hwr : (!r.writes || r.records.isEmpty) = true)
    (k1 : r.wellSaid = true) (ok : (chainsOk q && opensWell r.prog && (frees r.toRowW && r.within.isEmpty)) = true) (hb : r.prog.bare) (hw : r.toRowW.promised)
    (call : Mine.WalkC q loose XP YP r.toRowW d kwd) : r.Holds := left.elim
#guard_msgs (drop all) in
open_top hd for PySem.Challenge.rw_nt0489_01
end Mine0
end
section
abbrev hdAt : List Nat := [2, 3, 15, 22, 23, 25, 26, 28, 29, 30, 31, 32, 33, 36, 43, 44, 45, 55, 57, 58, 60, 61, 62, 64, 65, 67, 68, 69, 71,
        72, 74, 75, 76, 78, 79, 81, 82, 83, 85, 86, 88, 89, 90, 91, 92, 93, 94, 97, 99, 100, 102, 103, 104, 111, 113,
        114, 116, 117, 118, 120, 121, 123, 124, 125, 127, 128, 130, 131, 132, 133, 134, 137, 144, 145, 147, 148, 150,
        151, 152, 154, 155, 157, 158, 159, 161, 162, 164, 165, 166, 168, 169, 171, 172, 173, 175, 176, 178, 179, 180,
        182, 183, 185, 186, 187, 188, 189, 192, 194, 195, 197, 198, 199, 200, 202, 203, 205, 206, 207, 210, 211, 212,
        214, 215, 217, 218, 219, 221, 222, 224, 225, 226, 228, 229, 231, 232, 233, 236, 237, 238, 241, 242, 243, 246,
        247, 248, 251, 252]
theorem hdAs : ∀ P, hdAt = (Mine0.hd.heap_1 P).map (·.1) := fun _ => by kernel_rfl
noncomputable abbrev hdHook := kHook Mine0.hd.heap_1 hdAt hdAs
abbrev hdLoose : List Str := [Str.ofString "PostError", Str.ofString "RunEncoder", Str.ofString "runs_encoded"]
theorem hdLeft : LeftO PySem.Challenge.rw_nt0489_01.row.toRowW.prog Mine0.hd.view_1 hdLoose (fun s => xlAt Mine0.hd.view_1 [] s && recOk PySem.Challenge.rw_nt0489_01.row.records s) hdHook.obs hdHook.val 3912 := fun w => by kernel_rfl
theorem hdH {d : DefRec} {kwd : List (Str × Expr)} (h1 : defOf Mine0.hd.view_1 PySem.Challenge.rw_nt0489_01.row.name = some (d, kwd)) (h2 : PySem.Challenge.rw_nt0489_01.row.prog.theDef PySem.Challenge.rw_nt0489_01.row.name = some (d.params, d.body, d.scope)) (h3 : kwWritten? d.params.kwonlyargs d.params.kw_defaults = some kwd)
    (walk : WalkC Mine0.hd.view_1 hdLoose (XL Mine0.hd.view_1 []) hdHook.says PySem.Challenge.rw_nt0489_01.row.toRowW d kwd) : PySem.Challenge.rw_nt0489_01.Holds := by
  refine holds_law Mine0.ws fun said => ?_
  refine Mine.PySem.W.holds_open (q := Mine0.hd.view_1) (loose := hdLoose) (Xt := fun s => xlAt Mine0.hd.view_1 [] s && recOk PySem.Challenge.rw_nt0489_01.row.records s) (XP := XL Mine0.hd.view_1 []) (Yf := hdHook.obs) (Ya := hdHook.val) (YP := hdHook.says) (N := 3912) hdLeft hdHook.of hdHook.keeps
    (fun s e => xl_of s (Bool.and_eq_true_iff.mp e).1) XL.keeps h1 h2 h3 (fun s e => recFacts_of (Bool.and_eq_true_iff.mp e).2) (by rfl) (by first | assumption | decide +kernel) (by decide +kernel) ⟨rfl, rfl, rfl, rfl, rfl, by decide +kernel⟩ ?hw walk
  case hw => w_witness2
end
section
open Sem (wp)
section
variable {M : Model} {A : Around} {E : Value → Shared → Prop} {s : Shared} {env : Env}
/-! ## statements -/
theorem execs_nil_C {Q : Flow → Shared → Prop} (h : Q .next s) : wpC M A (execs [] env) Q E s := wpC_pure h
theorem execs_cons_C {st rest} {Q : Flow → Shared → Prop}
    (h : wpC M A (exec st env) (fun f s' => match f with | .next => wpC M A (execs rest env) Q E s' | f => Q f s') E s) :
    wpC M A (execs (st :: rest) env) Q E s := by
  rw [execs_cons]
  refine wpC_bind (wpC_mono h (fun f s' h' => ?_) fun _ _ x => x)
  cases f <;> first | exact h' | exact wpC_pure h'
/-- a statement by the library's rules, the rest in this logic -/
theorem execs_cons_A {st rest} {Q : Flow → Shared → Prop}
    (h : wpAny M A (exec st env) (fun f s' => match f with | .next => wpC M A (execs rest env) Q E s' | f => Q f s') E s) :
    wpC M A (execs (st :: rest) env) Q E s := execs_cons_C (wpC_any h)
theorem exec_If_C {test body orelse pos} {Q : Flow → Shared → Prop}
    (h : wpAny M A (isTrue test env (eval test env))
      (fun b s₂ => if b then wpC M A (execs body env) Q E s₂ else wpC M A (execs orelse env) Q E s₂) E s) :
    wpC M A (exec (.If test body orelse pos) env) Q E s := by
  rw [exec_If]
  refine wpC_bind (wpC_standAt (wpC_bindA (wpAny_mono h (fun b s₂ h₂ => ?_) fun _ _ x => x)))
  cases b <;> exact h₂
theorem exec_If_CC {test body orelse pos} {Q : Flow → Shared → Prop}
    (h : wpC M A (isTrue test env (eval test env))
      (fun b s₂ => if b then wpC M A (execs body env) Q E s₂ else wpC M A (execs orelse env) Q E s₂) E s) :
    wpC M A (exec (.If test body orelse pos) env) Q E s := by
  rw [exec_If]
  refine wpC_bind (wpC_standAt (wpC_bind (wpC_mono h (fun b s₂ h₂ => ?_) fun _ _ x => x)))
  cases b <;> exact h₂
theorem exec_Expr_C {e pos} {Q : Flow → Shared → Prop} (h : wpC M A (eval e env) (fun v s' => match v with | .ref _ => False | _ => Q .next s') E s)
    (hi : interactive env = false := by rfl) (hs : swapsWith e none pos.line env = pure false := by rfl) :
    wpC M A (exec (.Expr e pos) env) Q E s := by
  rw [exec_Expr env e pos hi hs]
  refine wpC_bind (wpC_standAt (wpC_bind (wpC_mono h (fun v s' h' => ?_) fun _ _ x => x)))
  have hv : ∀ a, v ≠ .ref a := fun a hva => by subst hva; exact h'
  rw [dropValue_plain hv]
  refine wpC_pure ?_
  cases v <;> first | exact h' | exact (hv _ rfl).elim
theorem exec_Return_C {e pos} {Q : Flow → Shared → Prop} (h : wpC M A (eval e env) (fun v => Q (.ret v)) E s) :
    wpC M A (exec (.Return (some e) pos) env) Q E s := by
  rw [exec_Return_some]
  exact wpC_bind (wpC_standAt (wpC_bind (wpC_mono h (fun _ _ x => wpC_pure x) fun _ _ x => x)))
theorem exec_AssignAttr_C {o attr pos' value pos} {Q : Flow → Shared → Prop}
    (h : wpC M A (eval value env) (fun v s₁ => wpAny M A (eval o env) (fun ov s₂ => wpAny M A (setAttr ov attr v) (fun _ => Q .next) E s₂) E s₁) E s)
    (hs : swapsWith value (some (.Attribute o attr pos')) pos.line env = pure false := by rfl) :
    wpC M A (exec (.Assign [.Attribute o attr pos'] value pos) env) Q E s := by
  rw [plainObj_exec_Assign_Attribute o attr pos' value pos hs]
  refine wpC_bind (wpC_standAt (wpC_bind (wpC_mono h (fun v s₁ h₁ => wpC_bindA ?_) fun _ _ x => x)))
  rw [assign_Attribute]
  refine wpAny_bind (wpAny_holding (wpAny_mono h₁ (fun ov s₂ h₂ => wpAny_bind (wpAny_standAt (wpAny_bind (wpAny_holding (wpAny_mono h₂ (fun u s₃ h₃ => ?_) fun _ _ x => x))))) fun _ _ x => x))
  intro Γ p hΓ
  rw [Sem.wp_release]
  exact wpC_pure h₃
theorem exec_AssignName_C {x pos' value pos} {Q : Flow → Shared → Prop}
    (h : wpC M A (eval value env) (fun v s₁ => wpAny M A (storeName env x v) (fun _ => Q .next) E s₁) E s)
    (hs : swapsWith value (some (.Name x pos')) pos.line env = pure false := by rfl) :
    wpC M A (exec (.Assign [.Name x pos'] value pos) env) Q E s := by
  rw [exec_Assign_Name env x pos' value pos hs]
  refine wpC_bind (wpC_standAt (wpC_bind (wpC_mono h (fun v s₁ h₁ => wpC_bind (wpC_standAt (wpC_bindA (wpAny_bindName (wpAny_mono h₁ (fun _ _ x => wpC_pure x) fun _ _ x => x))))) fun _ _ x => x)))
/-- an assignment of any other form: the value in this logic, the stores by the library's rules -/
theorem exec_Assign_C {targets value pos} {Q : Flow → Shared → Prop}
    (h : wpC M A (eval value env) (fun v s₁ => wpAny M A (swappedStores targets value env) (fun sw s₂ => wpAny M A (assignStores env v sw ((assignEach targets env).map (·.2))) Q E s₂) E s₁) E s)
    (hs : swapsWithSole targets value pos.line env = pure false := by rfl) :
    wpC M A (exec (.Assign targets value pos) env) Q E s := by
  have e : exec (.Assign targets value pos) env = (do
      standAt pos
      if ← swapsWithSole targets value pos.line env then do
        evalThenUse value env fun v => assignAll v ((assignEach targets env).map (·.2))
        pure .next
      else do
        let v ← eval value env
        assignStores env v (← swappedStores targets value env) ((assignEach targets env).map (·.2))) := rfl
  rw [e, hs]
  refine wpC_bind (wpC_standAt ?_)
  refine wpC_bind (wpC_pure ?_)
  exact wpC_bind (wpC_mono h (fun v s₁ h₁ => wpC_bindA (wpAny_mono h₁ (fun sw s₂ h₂ => wpC_any h₂) fun _ _ x => x)) fun _ _ x => x)
/-! ## expressions -/
theorem operate_C {vs : List Value} {m : Sem Value} {Q : Value → Shared → Prop} (h : wpC M A m Q E s) : wpC M A (operate vs m) Q E s :=
  fun Γ p hi hc => by rw [Sem.wp_operate]; exact h Γ p hi hc
theorem eval_BinOp_C {l op r pos} {Q : Value → Shared → Prop}
    (h : wpC M A (eval l env) (fun a s₁ => wpC M A (eval r env) (fun b s₂ => wpAny M A (binaryOp op a b) Q E s₂) E s₁) E s) :
    wpC M A (eval (.BinOp l op r pos) env) Q E s := by
  rw [eval_BinOp]
  exact wpC_bind (wpC_mono h (fun a s₁ h₁ => wpC_bind (wpC_holding (wpC_mono h₁ (fun b s₂ h₂ => wpC_bind (wpC_standAt (operate_C (wpC_any h₂)))) fun _ _ x => x))) fun _ _ x => x)
theorem spliced_nil_C {Q : List Value → Shared → Prop} (h : Q [] s) : wpC M A (spliced []) Q E s := wpC_pure h
theorem spliced_cons_C {x : Sem Value} {rest : List (Bool × Sem Value)} {Q : List Value → Shared → Prop}
    (h : wpC M A x (fun v s₁ => wpC M A (spliced rest) (fun vs s₂ => Q (v :: vs) s₂) E s₁) E s) : wpC M A (spliced ((false, x) :: rest)) Q E s := by
  rw [spliced]
  refine wpC_bind (wpC_mono h (fun v s₁ h₁ => ?_) fun _ _ x => x)
  simp only [Bool.false_eq_true, if_false]
  exact wpC_bind (wpC_pure (wpC_bind (wpC_holding (wpC_mono h₁ (fun vs s₂ h₂ => wpC_pure h₂) fun _ _ x => x))))
theorem eval_Tuple_C {elts : List Expr} {k : Nat} {pos : Pos} {Q : Value → Shared → Prop}
    (h : wpC M A (spliced (backTo pos (starEach elts env))) (fun vs s₁ => wpAny M A (newTuple vs) Q E s₁) E s) : wpC M A (eval (.Tuple elts k pos) env) Q E s := by
  rw [arm_eval_Tuple]
  exact wpC_bind (wpC_standAt (wpC_bind (wpC_mono h (fun _ _ x => wpC_any x) fun _ _ x => x)))
theorem evalArgs_C {f : Value} {x : Sem Value} {rest : List (Bool × Sem Value)} {Q : Args → Shared → Prop}
    (h : wpC M A (spliced ((false, x) :: rest)) (fun vs s' => Q ⟨vs, []⟩ s') E s) : wpC M A (evalArgs f true ((false, x) :: rest) []) Q E s := by
  unfold evalArgs
  show wpC M A (spliced ((false, x) :: rest) >>= _) Q E s
  refine wpC_bind (wpC_mono h (fun vs s' h' => ?_) fun _ _ x => x)
  refine wpC_holding ?_
  exact wpC_bind (wpC_pure (wpC_bind (wpC_pure (wpC_pure h'))))
theorem callWith_C {P : Heap → Prop} {pos : Pos} {f : Value} {first : List Value} {args : List (Bool × Sem Value)} {keywords : List (Option Str × Sem Value)} {Q : Value → Shared → Prop}
    (hplain : (args.any (·.1) || keywords.any (·.1.isNone)) = false)
    (hk : ∀ h, P h → ∃ k, (k = Keeper.frame ∨ k = Keeper.machine ∨ k = Keeper.boundFrame) ∧ Looks M h (keeperOf f) k)
    (h : wpC M A (evalArgs f true args keywords) (fun a s₁ => P s₁.heap ∧ wpC M A (call f (first ++ a.pos) a.kw) Q E s₁) E s) : wpC M A (callWith pos f first args keywords) Q E s := by
  unfold callWith
  refine wpC_bind (wpC_holding (wpC_mono h (fun a s₁ h₁ => wpC_bind (wpC_standAt ?_)) fun _ _ x => x))
  obtain ⟨k, hk', L⟩ := hk _ h₁.1
  simp only [hplain]
  refine wpC_bindA (L.here ?_)
  have tail : ∀ {t : Sem Value}, wpC M A t Q E s₁ → wpC M A (t >>= fun r => holding [r] point >>= fun _ => pure r) Q E s₁ :=
    fun ht => wpC_bind (wpC_mono ht (fun r s₂ hr => wpC_bind (wpC_holding (wpC_point (wpC_pure hr)))) fun _ _ x => x)
  have marked (mk : Value) : wpC M A (callMarked mk f (first ++ a.pos) a.kw) Q E s₁ := by unfold callMarked; exact wpC_keep h₁.2
  rcases hk' with rfl | rfl | rfl <;> dsimp only <;> first | exact tail h₁.2 | (split <;> first | exact tail h₁.2 | exact tail (marked _))
/-- the head of a call by a name -/
theorem eval_CallName_C {id : Str} {p pos : Pos} {args : List Expr} {kws : List Keyword} {Q : Value → Shared → Prop}
    (h : wpAny M A (eval (.Name id p) env) (fun f s₁ => wpC M A (callWith pos f [] (backTo pos (starEach args env)) (backToKw pos (keywordEach kws env))) Q E s₁) E s) :
    wpC M A (eval (.Call (.Name id p) args kws pos) env) Q E s := by
  rw [arm_eval_Call_Name']
  exact wpC_bindA h
/-- the head of a call of a method -/
theorem eval_CallMeth_C {o : Expr} {name : Str} {apos pos : Pos} {args : List Expr} {kws : List Keyword} {pl : Sem Bool} {Q : Value → Shared → Prop}
    (h : wpAny M A (eval o env) (fun ov s₁ => wpAny M A (getMethod ov name pl) (fun fx s₂ => wpC M A (callWith pos fx.1 fx.2 (backTo pos (starEach args env)) (backToKw pos (keywordEach kws env))) Q E s₂) E s₁) E s)
    (he : eval (.Call (.Attribute o name apos) args kws pos) env = (do
      let ov ← eval o env
      standAt apos.atName
      let (f, first) ← holding [ov] (getMethod ov name pl)
      callWith pos f first (backTo pos (starEach args env)) (backToKw pos (keywordEach kws env))) := by rfl) :
    wpC M A (eval (.Call (.Attribute o name apos) args kws pos) env) Q E s := by
  rw [he]
  refine wpC_bindA (wpAny_mono h (fun ov s₁ h₁ => wpC_bind (wpC_standAt (wpC_bindA (wpAny_holding (wpAny_mono h₁ (fun fx s₂ h₂ => ?_) fun _ _ x => x))))) fun _ _ x => x)
  exact h₂
/-- a call whose function keeps and whose arguments are read by the library's rules -/
theorem callWith_CK {K : Frag} {h₀ : Heap} {pos : Pos} {f : Value} {first : List Value} {e : Expr} {rest : List Expr} {Q : Value → Shared → Prop} (_X : K.In h₀) (hk : keepIn K f = true)
    (h : wpAny M A (spliced (backTo pos (starEach (e :: rest) env))) (fun vs s₁ => K.In s₁.heap ∧ wpC M A (call f (first ++ vs)) Q E s₁) E s)
    (he : starEach (e :: rest) env = (false, eval e env) :: starEach rest env := by rfl) (hplain : (backTo pos (starEach rest env)).any (·.1) = false := by rfl) :
    wpC M A (callWith pos f first (backTo pos (starEach (e :: rest) env)) (backToKw pos (keywordEach [] env))) Q E s := by
  rw [he] at h ⊢
  exact callWith_C (by show ((false || (backTo pos (starEach rest env)).any (·.1)) || false) = false; rw [hplain]; rfl) (keeps_K hk) (wpC_any (evalArgs_plain h))
theorem callWith_CK0 {K : Frag} {pos : Pos} {f : Value} {first : List Value} {Q : Value → Shared → Prop} (X : K.In s.heap) (hk : keepIn K f = true) (h : wpC M A (call f (first ++ [])) Q E s) :
    wpC M A (callWith pos f first (backTo pos (starEach [] env)) (backToKw pos (keywordEach [] env))) Q E s :=
  callWith_C rfl (keeps_K hk) (wpC_any (evalArgs_nil3 ⟨X, h⟩))
/-- the same, its arguments in this logic -/
theorem callWith_CC {K : Frag} {h₀ : Heap} {pos : Pos} {f : Value} {first : List Value} {e : Expr} {rest : List Expr} {Q : Value → Shared → Prop} (_X : K.In h₀) (hk : keepIn K f = true)
    (h : wpC M A (spliced (backTo pos (starEach (e :: rest) env))) (fun vs s₁ => K.In s₁.heap ∧ wpC M A (call f (first ++ vs)) Q E s₁) E s)
    (he : starEach (e :: rest) env = (false, eval e env) :: starEach rest env := by rfl) (hplain : (backTo pos (starEach rest env)).any (·.1) = false := by rfl) :
    wpC M A (callWith pos f first (backTo pos (starEach (e :: rest) env)) (backToKw pos (keywordEach [] env))) Q E s := by
  rw [he] at h ⊢
  exact callWith_C (by show ((false || (backTo pos (starEach rest env)).any (·.1)) || false) = false; rw [hplain]; rfl) (keeps_K hk) (evalArgs_C h)
/-- a built-in (an id or a type) called: nothing is asked of the heap -/
theorem keeps_builtin {id : String} (h : Heap) (_ : True) : ∃ k, (k = Keeper.frame ∨ k = Keeper.machine ∨ k = Keeper.boundFrame) ∧ Looks M h (keeperOf (.builtin id)) k := ⟨.machine, .inr (.inl rfl), Looks.of_pure rfl⟩
theorem keeps_type {T : String} (h : Heap) (_ : True) : ∃ k, (k = Keeper.frame ∨ k = Keeper.machine ∨ k = Keeper.boundFrame) ∧ Looks M h (keeperOf (.type T)) k := ⟨.machine, .inr (.inl rfl), Looks.of_pure rfl⟩
theorem callWith_CB {id : String} {pos : Pos} {first : List Value} {e : Expr} {rest : List Expr} {Q : Value → Shared → Prop}
    (h : wpAny M A (spliced (backTo pos (starEach (e :: rest) env))) (fun vs s₁ => wpC M A (call (.builtin id) (first ++ vs)) Q E s₁) E s)
    (he : starEach (e :: rest) env = (false, eval e env) :: starEach rest env := by rfl) (hplain : (backTo pos (starEach rest env)).any (·.1) = false := by rfl) :
    wpC M A (callWith pos (.builtin id) first (backTo pos (starEach (e :: rest) env)) (backToKw pos (keywordEach [] env))) Q E s := by
  rw [he] at h ⊢
  exact callWith_C (P := fun _ => True) (by show ((false || (backTo pos (starEach rest env)).any (·.1)) || false) = false; rw [hplain]; rfl) keeps_builtin
    (wpC_any (evalArgs_plain (wpAny_mono h (fun _ _ x => ⟨trivial, x⟩) fun _ _ x => x)))
theorem callWith_CT0 {T : String} {pos : Pos} {first : List Value} {Q : Value → Shared → Prop} (h : wpC M A (call (.type T) (first ++ [])) Q E s) :
    wpC M A (callWith pos (.type T) first (backTo pos (starEach [] env)) (backToKw pos (keywordEach [] env))) Q E s :=
  callWith_C (P := fun _ => True) rfl keeps_type (wpC_any (evalArgs_nil3 ⟨trivial, h⟩))
theorem callWith_CT {T : String} {pos : Pos} {first : List Value} {e : Expr} {rest : List Expr} {Q : Value → Shared → Prop}
    (h : wpC M A (spliced (backTo pos (starEach (e :: rest) env))) (fun vs s₁ => wpC M A (call (.type T) (first ++ vs)) Q E s₁) E s)
    (he : starEach (e :: rest) env = (false, eval e env) :: starEach rest env := by rfl) (hplain : (backTo pos (starEach rest env)).any (·.1) = false := by rfl) :
    wpC M A (callWith pos (.type T) first (backTo pos (starEach (e :: rest) env)) (backToKw pos (keywordEach [] env))) Q E s := by
  rw [he] at h ⊢
  exact callWith_C (P := fun _ => True) (by show ((false || (backTo pos (starEach rest env)).any (·.1)) || false) = false; rw [hplain]; rfl) keeps_type
    (evalArgs_C (wpC_mono h (fun _ _ x => ⟨trivial, x⟩) fun _ _ x => x))
end
/-! ## codes -/
section
variable {prog : Program} {w : World} {A : Around} {E : Value → Shared → Prop} {s : Shared} {R : Result → Shared → Prop}
theorem codeC_func {body env}
    (h : wpC (model prog w) (A.deeper env) (execs body env) (fun f s' => R (.ok (.ret (match f with | .ret v => v | _ => .none))) s')
      (fun e s' => wpAny (model prog w) (A.deeper env) (leaving env e) (fun _ s'' => R (.error e) s'') (fun e' s'' => R (.error e') s'') s') s) :
    codeC (model prog w) A (.func body env) R s := by
  refine codeC_of_tree rfl ?_
  show wpC _ (A.deeper env) (do point; match ← (execs body env).onRaise (leaving env) with | .ret v => ret v | _ => ret .none) _ _ s
  refine wpC_bind (wpC_point (wpC_bind (wpC_onRaise (wpC_mono h (fun f s' h' => ?_) fun _ _ h' => wpC_any h'))))
  cases f <;> exact wpC_pure h'
theorem codeC_call_function {a : Addr} {args : Args} {o : Obj} {fd : FuncData} {body : List Stmt} (hroom : A.depth < recursionLimit)
    (ho : s.heap.get? a = some o)
    (hd' : o.data = .func fd) (hco : fd.scope.isCoroutine = false) (hgen : fd.scope.isGenerator = false) (hbody : fd.body = .stmts body) (hcd : s.heap.CodeRec fd.code fd.qualname)
    (h : wpAny (model prog w) A.in1 (bindArgs fd args) (fun binds s₁ =>
      wpAny (model prog w) A.in1 (newFunctionEnv fd.scope fd.globals fd.closure binds (fd.qualname ++ ".<locals>.") (some a) fd.code none fd.builtins)
        (fun env s₂ => s₂.heap.NoLimit ∧ codeC (model prog w) A (.func body env) R s₂) (fun e s' => R (.error e) s') s₁) (fun e s' => R (.error e) s') s) :
    codeC (model prog w) A (.call (.ref a) args) R s := by
  refine codeC_of_tree rfl (wpC_any ?_)
  show wpAny _ A.in1 (callAny (.ref a) args) _ _ s
  simp only [callAny]
  refine wpAny_bind (wpAny_load ho ?_)
  obtain ⟨c, oc, vs, tq, hc, hoc, hdc, hq⟩ := hcd
  simp only [hd', callFunction, hco, hgen, hbody, hc]
  rw [hc] at h
  refine wpAny_bind (m := field (.ref c) 1) (wpAny_field hoc hdc hq (wpAny_bind (wpAny_pure ?_)))
  exact wpAny_bind (wpAny_mono h (fun binds s₁ h₁ => wpAny_bind (wpAny_mono h₁ (fun env s₂ h₂ => wpAny_bind (wpAny_enterFrame h₂.1 hroom
    (wpAny_pure (And.intro rfl h₂.2)))) fun _ _ h' => h')) fun _ _ h' => h')
/-- a def entered from a frame, with the ledger (no cells); it may raise -/
theorem def_CX {K : Frag} {A₀ : Around} {base h₀ : Heap} {outer : List Env} {L : Addr} {m mg mb : Str → Option Value} {env : Env} {news : List (Addr × Obj)} {p : Program} {loose : List Str} {mean : ExcName → Option Value}
    {name qual : Str} {params : Arguments} {body : List Stmt} {scope : Scope} {dV kV doc pm cdv ct oc : Value} {an od : Option Addr} {osl : Array (Option Value)} {f : Addr} {args : Args} {binds : List (Str × Value)}
    (B : Below A₀ base outer h₀) (F : Fr h₀ L s.heap m) (X₀ : K.In h₀) (N : News h₀ L s.heap news) (T : Top p loose mean mg mb h₀) (hA : A.frames = some (env :: outer)) (hf : env.frame = some L) (hke : env.scope.kind = .function)
    (ho : K.lookup f = some ⟨oc, od, .func (fnOf name qual params body scope dV kV doc pm an cdv ct), osl⟩) (hcd : codeIn K cdv qual = true) (hroom : A.depth < recursionLimit)
    (hbind : BindsTo s (fnOf name qual params body scope dV kV doc pm an cdv ct) args binds) (hloc : ∀ y ∈ binds, scope.names.lookup y.1 = some .local)
    (h : ∀ g L' h₁, Fr h₀ L g m → Fr g L' h₁ (fun y => binds.reverse.lookup y) → News g L' h₁ news → Below A base (env :: outer) g → K.In g → Top p loose mean mg mb g → (∀ p ∈ news, p.1 < L') →
      wpC (model prog w) (A.deeper (envOf qual scope L' f cdv)) (execs body (envOf qual scope L' f cdv))
        (fun fl s' => LeaveK h₀ L m g R (match fl with | .ret v => v | _ => .none) s')
        (fun e s' => wpAny (model prog w) (A.deeper (envOf qual scope L' f cdv)) (leaving (envOf qual scope L' f cdv) e) (fun _ s'' => R (.error e) s'') (fun e' s'' => R (.error e') s'') s')
        { s with heap := h₁, toks := s.toks + binds.length })
    (hco : scope.isCoroutine = false) (hgen : scope.isGenerator = false) (hk : scope.kind = .function)
    (hcell : ∀ x ∈ scope.names, x.2 ≠ .cell) : codeC (model prog w) A (.call (.ref f) args) R s := by
  obtain ⟨FG, BG, st, lv⟩ := groundX (R := R) B F N hA hf hke
  refine codeC_call_function (fd := fnOf name qual params body scope dV kV doc pm an cdv ct) (body := body) hroom ((X₀.keeps F.keep) _ _ ho) rfl hco hgen rfl (codeRec_of (X₀.keeps F.keep) hcd) (hbind _ _ _ _ ?_)
  refine wpAny_newFunctionEnv hcell hloc (fun h₁ hns hsb => ⟨(T.nolimit.keeps F.keep).fresh _ hsb, codeC_func ?_⟩) hk
  have hk₁ : ∀ b o, s.heap.get? b = some o → h₁.get? b = some o := fun b o e => hsb.extBut b o (Nat.ne_of_lt (Heap.lt_size e)) (Heap.get?_push_of_some _ e)
  exact wpC_mono (h _ s.heap.objs.size h₁ FG ⟨hns, fun b o e => hk₁ b o (of_hideAll _ e), Nat.le_of_eq (hideAll_size _ _)⟩
    (fun p hp => ⟨hk₁ _ _ (N p hp).1, Nat.ne_of_lt (Heap.lt_size (N p hp).1), hideAll_none _ (List.mem_map_of_mem hp)⟩) BG (X₀.keeps st) (T.keeps st) (fun p hp => Heap.lt_size (N p hp).1)) (fun fl s' hl => lv _ _ hl) fun _ _ y => y
/-- a def entered from a frame, with the ledger (no cells) -/
theorem def_C {K : Frag} {A₀ : Around} {base h₀ : Heap} {outer : List Env} {L : Addr} {m mg mb : Str → Option Value} {env : Env} {news : List (Addr × Obj)} {p : Program} {loose : List Str} {mean : ExcName → Option Value}
    {name qual : Str} {params : Arguments} {body : List Stmt} {scope : Scope} {dV kV doc pm cdv ct oc : Value} {an od : Option Addr} {osl : Array (Option Value)} {f : Addr} {args : Args} {binds : List (Str × Value)}
    (B : Below A₀ base outer h₀) (F : Fr h₀ L s.heap m) (X₀ : K.In h₀) (N : News h₀ L s.heap news) (T : Top p loose mean mg mb h₀) (hA : A.frames = some (env :: outer)) (hf : env.frame = some L) (hke : env.scope.kind = .function)
    (ho : K.lookup f = some ⟨oc, od, .func (fnOf name qual params body scope dV kV doc pm an cdv ct), osl⟩) (hcd : codeIn K cdv qual = true) (hroom : A.depth < recursionLimit)
    (hbind : BindsTo s (fnOf name qual params body scope dV kV doc pm an cdv ct) args binds) (hloc : ∀ y ∈ binds, scope.names.lookup y.1 = some .local)
    (h : ∀ g L' h₁, Fr h₀ L g m → Fr g L' h₁ (fun y => binds.reverse.lookup y) → News g L' h₁ news → Below A base (env :: outer) g → K.In g → Top p loose mean mg mb g → (∀ p ∈ news, p.1 < L') →
      wpC (model prog w) (A.deeper (envOf qual scope L' f cdv)) (execs body (envOf qual scope L' f cdv))
        (fun fl s' => LeaveK h₀ L m g R (match fl with | .ret v => v | _ => .none) s')
        (fun _ _ => False)
        { s with heap := h₁, toks := s.toks + binds.length })
    (hco : scope.isCoroutine = false) (hgen : scope.isGenerator = false) (hk : scope.kind = .function)
    (hcell : ∀ x ∈ scope.names, x.2 ≠ .cell) : codeC (model prog w) A (.call (.ref f) args) R s :=
  def_CX B F X₀ N T hA hf hke ho hcd hroom hbind hloc (fun g L' h₁ a1 a2 a3 a4 a5 a6 a7 => wpC_mono (h g L' h₁ a1 a2 a3 a4 a5 a6 a7) (fun _ _ x => x) fun _ _ x => x.elim) hco hgen hk hcell
/-- the turn of a for loop, no one raising -/
theorem forLoop_C {target it body env} (I : Nat → Shared → Prop)
    (turn : ∀ n s, I n s → wpAny (model prog w) A (pyNext it) (fun r s₁ => match r with
      | none => R (.ok .next) s₁
      | some v => wpAny (model prog w) A (letOwnedTupleGo target it v) (fun _ s₁' =>
          wpAny (model prog w) A (assign target env v) (fun _ s₂ => wpC (model prog w) A (execs body env) (fun f s₃ => match f with
            | .next | .cont => ∃ m, m < n ∧ I m s₃
            | .brk => R (.ok .next) s₃
            | .ret v => R (.ok (.ret v)) s₃) (fun _ _ => False) s₂) (fun _ _ => False) s₁') (fun _ _ => False) s₁) (fun _ _ => False) s)
    (n : Nat) (h : I n s) : codeC (model prog w) A (.forLoop target it body [] env) R s := by
  refine codeC_loop rfl rfl I (fun n s hI => ?_) n h
  have hu : A.under (.forLoop target it body [] env) = A := Around.under_of_weight rfl
  rw [hu]
  show wpC _ A ((forTurn target it body [] env).onRaise (fun x => do noteFrame x env; theTreesLotGoes x)) _ _ s
  refine wpC_onRaise (wpC_mono (Q := fun (fin : Fin) s' => match fin with | .done f => R (.ok f) s' | .again c' => (c' = .forLoop target it body [] env ∧ ∃ m, m < n ∧ I m s') ∨ (c'.quiet = true ∧ codeC (model prog w) A c' R s')) (E := fun _ _ => False) ?_ (fun _ _ x => x) fun _ _ x => x.elim)
  unfold forTurn
  refine wpC_bind (wpC_standAt (wpC_bind (wpC_onRaise (wpC_mono (wpC_any (turn n s hI)) (fun r s₁ h₁ => ?_) fun _ _ x => x.elim))))
  cases r with
  | none =>
    refine wpC_pure (.inr ⟨rfl, codeC_of_tree rfl ?_⟩)
    have hu : A.under (.block [] env) = A := Around.under_of_weight rfl
    rw [hu]
    show wpC _ A (do return Fin.done (← (execs [] env).onRaise (fun x => do noteFrame x env; theTreesLotGoes x))) _ _ s₁
    exact wpC_bind (wpC_onRaise (execs_nil_C (wpC_pure h₁)))
  | some v =>
    refine wpC_bindA (wpAny_mono h₁ (fun _ s₁' h₁' => wpC_bindA (wpAny_mono h₁' (fun _ s₂ h₂ => wpC_bind (wpC_mono h₂ (fun f s₃ h₃ => ?_) fun _ _ x => x.elim)) fun _ _ x => x.elim)) fun _ _ x => x.elim)
    cases f with
    | next => exact wpC_pure (.inl ⟨rfl, h₃⟩)
    | cont => exact wpC_pure (.inl ⟨rfl, h₃⟩)
    | brk => exact wpC_pure h₃
    | ret v => exact wpC_pure h₃
theorem exec_For_C {target iter body pos} {env : Env} {Q : Flow → Shared → Prop}
    (h : wpC (model prog w) A (eval iter env) (fun x s₁ => wpAny (model prog w) A (pyIter x) (fun it s₂ =>
      codeC (model prog w) A (.forLoop target it body [] env) (fun r s' => match r with | .ok f => Q f s' | .error _ => False) s₂) E s₁) E s)
    (hs : ∀ x, foldedSetIterable iter env x = pure x := by intro _; rfl) :
    wpC (model prog w) A (exec (.For target iter body [] pos) env) Q E s := by
  rw [arm_exec_For]
  refine wpC_bind (wpC_standAt (wpC_bind (wpC_mono h (fun x s₁ h₁ => ?_) fun _ _ e => e)))
  rw [hs x]
  refine wpC_bind (wpC_pure (wpC_bind (wpC_standAt (wpC_bindA (wpAny_holding (wpAny_mono h₁ (fun it s₂ h₂ => ?_) fun _ _ e => e))))))
  unfold runOwn
  refine wpC_onRaise (wpC_run (h := none) (codeC_mono h₂ fun r s' hr => ?_))
  cases r with
  | ok f => exact hr
  | error e => exact hr.elim
end
end
section
open Sem (wp)
/-! ## a bytearray made -/
abbrev baObj (b : Array UInt8) : Obj := { cls := .type "bytearray", data := .bytearray b }
namespace BF
theorem mro : mroOf (.type "bytearray") = pure [.type "bytearray", .type "object"] := by rw [mroOf_type]; kernel_rfl
theorem lookup_new : typeLookup (.type "bytearray") "__new__" = pure (some (.builtin "bytearray.__new__")) := by rw [typeLookup_type, builtinLookup_eq_fast]; kernel_rfl
theorem slot_init : Slot "bytearray" "__init__" "bytearray.__init__" :=
  .of (owner := "bytearray") (n := "__init__") (by rw [typeLookup_type, builtinLookup_eq_fast]; kernel_rfl) (by decide +kernel) (by decide +kernel) (by decide +kernel)
    (by first | exact .inl (by decide +kernel) | exact .inr (by decide +kernel)) (by rw [isSubtype_type]; kernel_rfl)
theorem called : TypeCalled "bytearray" "bytearray.__new__" "bytearray.__init__" :=
  ⟨by decide +kernel, by decide +kernel, ⟨_, _, mro⟩, madeBy_type mro lookup_new (by decide +kernel), by decide +kernel, by rw [isSubtype_type]; kernel_rfl, slot_init⟩
theorem typeCall0 : checkTypeCall "bytearray" ⟨[], []⟩ = pure () := by kernel_rfl
theorem newCall0 : checkBuiltinCall "bytearray.__new__" ⟨[.type "bytearray"], []⟩ = pure () := by kernel_rfl
theorem entry_new : entryFor table "bytearray.__new__" = some Builtin.«list.__new__» :=
  entryFor_alias (id' := "list.__new__") (by rw [fastTable_eq_tree]; kernel_rfl) (by decide +kernel) (by decide +kernel) (by rw [fastTable_eq_tree]; kernel_rfl)
theorem plain_new : plainId "bytearray.__new__" = true := by decide +kernel
theorem entry_init : entryFor table "bytearray.__init__" = some Builtin.«bytearray.__init__» := by first | exact entryFor_of_tree (by kernel_rfl) | exact entryFor_of_fast (by kernel_rfl)
theorem plain_init : plainId "bytearray.__init__" = true := by decide +kernel
theorem sub_self : isSubtype (.type "bytearray") (.type "bytearray") = pure true := by rw [isSubtype_type]; kernel_rfl
theorem args_init0 (a : Value) : argsOk "bytearray.__init__" ⟨[a], []⟩ := by unfold argsOk; kernel_rfl
set_option maxRecDepth 1000000 in
set_option maxHeartbeats 4000000 in
theorem owner_new : ("bytearray.__new__".splitOn ".__new__").headD "" = "bytearray" := by simp +decide [String.splitOn, String.splitOnAux]
theorem look_release : typeLookup (.type "bytearray") "__release_buffer__" = pure (some (.builtin "bytearray.__release_buffer__")) := by rw [typeLookup_type, builtinLookup_eq_fast]; kernel_rfl
theorem bind0 : Builtin.Bytes.bindOptional "bytearray.__init__" "bytearray" ["source", "encoding", "errors"] [] [] = pure [none, none, none] := by kernel_rfl
end BF
section
variable {prog : Program} {w : World} {A : Around} {E : Value → Shared → Prop} {s : Shared} {R : Result → Shared → Prop}
theorem codeC_builtin {id : String} {args : Args} {b : Builtin} (hb : entryFor table id = some b) (hh : hlds (.builtin id args) = false)
    (h : wpC (model prog w) (A.under (.builtin id args)) (b args) (FinC (model prog w) A R) (fun e s' => R (.error e) s') s) :
    codeC (model prog w) A (.builtin id args) R s := by
  refine codeC_of_tree hh ?_
  show wpC _ _ (match entryFor table id with | some b => b args | none => unsupported ((withoutEnding? id "#data").getD id)) _ _ s
  rw [hb]; exact h
theorem hlds_id {id : String} {args : Args} (h : (["bytearray.__contains__", "bytearray.__mod__", "bytearray.__rmod__", "_struct.pack_into.held", "bytearray.find.held"] ++ Builtin.Bytes.decodersThatHold).contains id = false) :
    hlds (.builtin id args) = false := h
theorem wpC_ite_t {α : Type} {M : Model} {c : Prop} [Decidable c] {a b : Sem α} {Q : α → Shared → Prop} (hc : c) (h : wpC M A a Q E s) : wpC M A (if c then a else b) Q E s := by
  rw [if_pos hc]; exact h
theorem wpC_ite_f {α : Type} {M : Model} {c : Prop} [Decidable c] {a b : Sem α} {Q : α → Shared → Prop} (hc : ¬ c) (h : wpC M A b Q E s) : wpC M A (if c then a else b) Q E s := by
  rw [if_neg hc]; exact h
theorem code_ba_new {Q₁ : Value → Shared → Prop}
    (h : Q₁ (.ref s.heap.objs.size) { s with heap := s.heap.push (baObj #[]) }) :
    codeAny (model prog w) A (.call (.builtin "bytearray.__new__") ⟨[.type "bytearray"], []⟩) (wants Q₁ E) s := by
  refine codeAny_of_tree ?_
  show wpAny _ A.in1 (do checkBuiltinCall "bytearray.__new__" ⟨[.type "bytearray"], []⟩; again (.builtin "bytearray.__new__" ⟨[.type "bytearray"], []⟩)) _ _ s
  refine wpAny_bind (wpAny_of_eq BF.newCall0 (wpAny_pure ⟨plainId_quiet BF.plain_new _, codeAny_builtin_stack BF.entry_new rfl fun p st => ?_⟩))
  rw [Around.under_plainId BF.plain_new _]
  have hsub := BF.sub_self
  have hown := BF.owner_new
  obtain ⟨hp, g, d, tk, os⟩ := s
  simp only [hown]
  wp_walk
  exact h
theorem own_release_ba {M : Model} {q : Addr} {Q : Bool → Shared → Prop} (hT : s.TypeIs (.ref q) "bytearray") (h : Q false s) : wpAny M A (Builtin.Bytes.ownRelease (.ref q)) Q E s := by
  unfold Builtin.Bytes.ownRelease Builtin.Bytes.slotIsOwn
  refine wpAny_bind (wpAny_bind (wpAny_specialOf (T := "bytearray") hT BF.look_release ?_))
  dsimp only
  have e1 : (!("bytearray.__release_buffer__".endsWith ("." ++ "__release_buffer__"))) = false := by decide +kernel
  have e2 : ("bytearray.__release_buffer__".dropRight ("__release_buffer__".length + 1)) = "bytearray" := by decide +kernel
  rw [e1, e2]
  refine wpAny_ite ?_
  rw [if_neg Bool.false_ne_true]
  refine wpAny_isInstance hT BF.sub_self ?_
  exact wpAny_pure h
theorem wpAny_exportsOf {M : Model} {q : Addr} {b : Array UInt8} {Q : Nat → Shared → Prop} (ho : s.heap.get? q = some (baObj b)) (h : Q 0 s) : wpAny M A (Builtin.Bytes.exportsOf (.ref q)) Q E s :=
  wpAny_bind (wpAny_load ho (wpAny_pure h))
theorem wpAny_write {M : Model} {q : Addr} {b : Array UInt8} {f : Array UInt8 → Array UInt8} {Q : Unit → Shared → Prop} (ho : s.heap.get? q = some (baObj b)) (hz : (f b).size ≤ sizeLine)
    (h : (s.heap.update q (Obj.mapBytearray f)).get? q = some (baObj (f b)) → Q () { s with heap := s.heap.update q (Obj.mapBytearray f) }) : wpAny M A (Builtin.Bytes.write (.ref q) f) Q E s := by
  show wpAny M A (updateBytearray q f) Q E s
  unfold updateBytearray
  refine wpAny_bind (wpAny_load ho ?_)
  show wpAny M A (update q (Obj.mapBytearray f) >>= fun _ => lookBehind q) Q E s
  refine wpAny_bind (wpAny_update ho ?_)
  have hS : (s.heap.update q (Obj.mapBytearray f)).get? q = some (baObj (f b)) := Heap.get?_update_self (Obj.mapBytearray f) ho rfl
  refine wpAny_lookBehind hS ?_ (h hS)
  show (if (f b).size > sizeLine then some "bytearray:memory" else none) = none
  rw [if_neg (by lia)]
theorem wpC_orM {M : Model} {x y : Sem Bool} {Q : Bool → Shared → Prop} (h : wpC M A x (fun b s' => if b = true then Q true s' else wpC M A y Q E s') E s) : wpC M A (x <||> y) Q E s := by
  unfold orM
  refine wpC_bind (wpC_mono h (fun b s' h' => ?_) fun _ _ x => x)
  cases b with
  | true => exact wpC_pure h'
  | false => exact h'
theorem wpC_held {M : Model} {q : Addr} {b : Array UInt8} {Q : Bool → Shared → Prop} (ho : s.heap.get? q = some (baObj b)) (h : Q false s) :
    wpC M A (Builtin.Bytes.exported (.ref q) <||> (do return (← Builtin.Bytes.exportsOf (.ref q)) > 0)) Q E s := by
  refine wpC_orM (wpC_exported ?_)
  rw [if_neg Bool.false_ne_true]
  exact wpC_bindA (wpAny_exportsOf ho (wpC_pure h))
theorem wpC_resize {M : Model} {q : Addr} {b : Array UInt8} {Q : Unit → Shared → Prop} (ho : s.heap.get? q = some (baObj b)) (h : Q () s) : wpC M A (Builtin.Bytes.checkResize (.ref q)) Q E s := by
  unfold Builtin.Bytes.checkResize
  exact wpC_bind (wpC_held ho (wpC_ite_f Bool.false_ne_true (wpC_pure h)))
theorem tree_ba_init {M : Model} {q : Addr} {Q : Fin → Shared → Prop} (ho : s.heap.get? q = some (baObj #[]))
    (h : ∀ h', (∀ b o, s.heap.get? b = some o → h'.get? b = some o) → Q (.done (.ret .none)) { s with heap := h' }) :
    wpC M A (Builtin.«bytearray.__init__» ⟨[.ref q], []⟩) Q E s := by
  have hT : s.TypeIs (.ref q) "bytearray" := ⟨_, ho, rfl⟩
  unfold Builtin.«bytearray.__init__»
  dsimp only
  refine wpC_bindA (own_release_ba hT ?_)
  refine wpC_ite_f Bool.false_ne_true ?_
  refine wpC_bindA (wpAny_of_eq BF.bind0 ?_)
  dsimp only
  refine wpC_bindA (wpAny_of_eq (a := ()) rfl ?_)
  refine wpC_bindA (wpAny_of_eq (a := ()) rfl ?_)
  refine wpC_bind (wpC_held ho (wpC_ite_f Bool.false_ne_true ?_))
  refine wpC_bindA (wpAny_write (b := #[]) (f := fun _ => #[]) ho (Nat.zero_le _) fun hS => ?_)
  refine wpC_bindA (wpAny_of_eq (a := ()) rfl ?_)
  refine wpC_pure (h _ fun b o e => ?_)
  by_cases hb : b = q
  · subst hb
    rw [ho] at e
    rw [hS]
    exact e
  · exact (Heap.get?_update_ne _ _ _ _ hb).trans e
/-- what stands behind the making of an object: its __init__, which hands back None -/
theorem init_C {M : Model} {obj init : Value} {rest : List Value} {kw : List (Str × Value)} {Q : Fin → Shared → Prop}
    (hs : ∀ (Q' : Option Value → Shared → Prop), Q' (some init) s → wpAny M A (specialOf obj "__init__") Q' E s)
    (hb : ∀ (Q' : Value × List Value → Shared → Prop), Q' (init, [obj]) s → wpAny M A (bindSpecial init obj) Q' E s)
    (h : wpC M A (call init (obj :: rest) kw) (fun v s' => v = .none ∧ Q (.done (.ret obj)) s') E s) :
    wpC M A (do
      match ← holding [obj] (callSpecial? obj "__init__" rest kw) with
      | none => ret obj
      | some r =>
        if (r != Value.none) = true then do
          rule "type.call.init-returned-value"
          let x ← PySem.typeNameOf r
          raiseErrorMade "TypeError" (toString "__init__() should return None, not '" ++ toString x ++ toString "'")
          ret obj
        else ret obj) Q E s := by
  refine wpC_bind (wpC_holding ?_)
  unfold callSpecial?
  refine wpC_bindA (hs _ ?_)
  refine wpC_holding (wpC_bindA (hb _ ?_))
  refine wpC_bind (wpC_mono h (fun v s' hv => ?_) fun _ _ x => x)
  obtain ⟨rfl, hq⟩ := hv
  exact wpC_pure (wpC_ite_f (by decide) (wpC_pure hq))
/-- bytearray(): a new empty one -/
theorem call_ba {h₀ : Heap} {L : Addr} {m : Str → Option Value} {news : List (Addr × Obj)} {Q : Value → Shared → Prop} (F : Fr h₀ L s.heap m) (N : News h₀ L s.heap news)
    (h : ∀ q h', Fr h₀ L h' m → News h₀ L h' ((q, baObj #[]) :: news) → (∀ p ∈ news, p.1 < q) → Q (.ref q) { s with heap := h' }) :
    wpC (model prog w) A (call (.type "bytearray") []) Q E s := by
  refine wpC_call (codeC_of_tree rfl ?_)
  show wpC _ _ (callAny (.type "bytearray") _) _ _ _
  refine wpC_pure ⟨Code.quiet_builtin _ (by decide +kernel), codeC_builtin PySem.F.entry_type_call (by decide +kernel) ?_⟩
  rw [Around.under_plain (weight_type_call_type "bytearray" [] []) rfl]
  unfold Builtin.«type.__call__»
  dsimp only
  refine wpC_ite_f (by decide) ?_
  have h2 := BF.called.canCreate
  refine wpC_ite_f (by rw [h2]; exact Bool.false_ne_true) ?_
  refine wpC_bindA (wpAny_of_eq BF.typeCall0 ?_)
  refine wpC_bindA (wpAny_of_eq BF.mro ?_)
  refine wpC_ite_f (by decide) ?_
  refine wpC_bindA (wpAny_of_eq BF.called.made ?_)
  refine wpC_bind (wpC_pure ?_)
  refine wpC_bindA (wpAny_holding (wpAny_call (codeAny_mono (code_ba_new (E := fun _ _ => False) (Q₁ := fun v s' => v = .ref s.heap.objs.size ∧ s' = { s with heap := s.heap.push (baObj #[]) }) ⟨rfl, rfl⟩) fun r s₁ hr => ?_)))
  rcases r with e | (v | _ | _ | _)
  all_goals first | exact hr.elim | skip
  obtain ⟨rfl, rfl⟩ := hr
  have hq : (s.heap.push (baObj #[])).get? s.heap.objs.size = some (baObj #[]) := Heap.get?_push_size _ rfl
  have hT : Shared.TypeIs { s with heap := s.heap.push (baObj #[]) } (.ref s.heap.objs.size) "bytearray" := ⟨_, hq, rfl⟩
  refine wpC_bindA (wpAny_isInstance hT BF.sub_self ?_)
  refine wpC_ite_f (by decide) ?_
  refine init_C (rest := []) (kw := []) (init := .builtin "bytearray.__init__") (fun Q' q' => wpAny_specialOf hT BF.slot_init.lookup q') (fun Q' q' => wpAny_of_eq (BF.slot_init.bind _) q') ?_
  refine wpC_call (codeC_of_tree rfl (wpC_any ?_))
  show wpAny _ A.in1.in1 (callAny (.builtin "bytearray.__init__") _) _ _ _
  refine wpAny_bind (BF.slot_init.check _ _ _ _ _ _ _ _ hT (BF.args_init0 _) (wpAny_pure ⟨plainId_quiet BF.plain_init _, codeC_builtin BF.entry_init (hlds_id (by decide +kernel)) ?_⟩))
  refine tree_ba_init hq fun h' hk => ?_
  refine ⟨rfl, ?_⟩
  have N1 : News h₀ L h' ((s.heap.objs.size, baObj #[]) :: news) := fun p hp => by
    have z := (N.push F (baObj #[])) p hp
    exact ⟨hk _ _ z.1, z.2⟩
  have F1 : Fr h₀ L h' m := by
    have F2 := F.push (baObj #[])
    exact F2.keptAll hk
  exact h _ h' F1 N1 fun p hp => Heap.lt_size (N p hp).1
end
end
section
open Sem (wp)
namespace BF
theorem plainAttrs : PlainAttrs "bytearray" :=
  ⟨⟨"bytearray.__getattribute__", by rw [typeLookup_type, builtinLookup_eq_fast]; kernel_rfl, by decide +kernel⟩, by rw [typeLookup_type, builtinLookup_eq_fast]; kernel_rfl⟩
theorem slot_append : Slot "bytearray" "append" "bytearray.append" :=
  .of (owner := "bytearray") (n := "append") (by rw [typeLookup_type, builtinLookup_eq_fast]; kernel_rfl) (by decide +kernel) (by decide +kernel) (by decide +kernel)
    (by first | exact .inl (by decide +kernel) | exact .inr (by decide +kernel)) (by rw [isSubtype_type]; kernel_rfl)
theorem entry_append : entryFor table "bytearray.append" = some Builtin.«bytearray.append» := entryFor_of_tree (by kernel_rfl)
theorem args_append (a b : Value) : argsOk "bytearray.append" ⟨[a, b], []⟩ := by unfold argsOk; kernel_rfl
theorem type_append : typeOf (.builtin "bytearray.append") = pure (.type "method_descriptor") := by show builtinType _ = _; rw [builtinType_eq_fast]; kernel_rfl
theorem slot_extend : Slot "bytearray" "extend" "bytearray.extend" :=
  .of (owner := "bytearray") (n := "extend") (by rw [typeLookup_type, builtinLookup_eq_fast]; kernel_rfl) (by decide +kernel) (by decide +kernel) (by decide +kernel)
    (by first | exact .inl (by decide +kernel) | exact .inr (by decide +kernel)) (by rw [isSubtype_type]; kernel_rfl)
theorem entry_extend : entryFor table "bytearray.extend" = some Builtin.«bytearray.extend» := entryFor_of_tree (by kernel_rfl)
theorem entry_extend_loop : entryFor table "bytearray.extend.loop" = some Builtin.«bytearray.extend.loop» := by first | exact entryFor_of_tree (by kernel_rfl) | exact entryFor_of_fast (by kernel_rfl)
theorem entry_extend_end : entryFor table "bytearray.extend.end" = some Builtin.«bytearray.extend.end» := by first | exact entryFor_of_tree (by kernel_rfl) | exact entryFor_of_fast (by kernel_rfl)
theorem plain_extend_loop : plainId "bytearray.extend.loop" = true := by decide +kernel
theorem plain_extend_end : plainId "bytearray.extend.end" = true := by decide +kernel
theorem args_extend (a b : Value) : argsOk "bytearray.extend" ⟨[a, b], []⟩ := by unfold argsOk; kernel_rfl
theorem type_extend : typeOf (.builtin "bytearray.extend") = pure (.type "method_descriptor") := by show builtinType _ = _; rw [builtinType_eq_fast]; kernel_rfl
theorem slot_len : Slot "bytearray" "__len__" "bytearray.__len__" :=
  .of (owner := "bytearray") (n := "__len__") (by rw [typeLookup_type, builtinLookup_eq_fast]; kernel_rfl) (by decide +kernel) (by decide +kernel) (by decide +kernel)
    (by first | exact .inl (by decide +kernel) | exact .inr (by decide +kernel)) (by rw [isSubtype_type]; kernel_rfl)
theorem entry_len : entryFor table "bytearray.__len__" = some Builtin.«bytearray.__len__» := entryFor_of_tree (by kernel_rfl)
theorem args_len (a : Value) : argsOk "bytearray.__len__" ⟨[a], []⟩ := by unfold argsOk; kernel_rfl
theorem look_buffer : typeLookup (.type "bytearray") "__buffer__" = pure (some (.builtin "bytearray.__buffer__")) := by rw [typeLookup_type, builtinLookup_eq_fast]; kernel_rfl
theorem noBytes : typeLookup (.type "bytearray") "__bytes__" = pure none := by rw [typeLookup_type, builtinLookup_eq_fast]; kernel_rfl
theorem noIndex : typeLookup (.type "bytearray") "__index__" = pure none := by rw [typeLookup_type, builtinLookup_eq_fast]; kernel_rfl
theorem look_bytes : typeLookup (.type "bytes") "__bytes__" = pure (some (.builtin "bytes.__bytes__")) := by rw [typeLookup_type, builtinLookup_eq_fast]; kernel_rfl
end BF
section
variable {prog : Program} {w : World} {A : Around} {E : Value → Shared → Prop} {s : Shared} {R : Result → Shared → Prop} {q : Addr} {b : Array UInt8}
theorem getMethod_ba {M : Model} {name : Str} {id : String} {pl : Sem Bool} {Q : Value × List Value → Shared → Prop} (ho : s.heap.get? q = some (baObj b)) (slot : Slot "bytearray" name id)
    (hty : typeOf (.builtin id) = pure (.type "method_descriptor")) (h : Q (.builtin id, [.ref q]) s) : wpAny M A (getMethod (.ref q) name pl) Q E s :=
  getMethod_builtin (T := "bytearray") ⟨_, ho, rfl⟩ BF.plainAttrs slot hty (fun a e => by cases e; exact ⟨_, ho, rfl⟩) h
theorem wpAny_payload {M : Model} {Q : Array UInt8 → Shared → Prop} (ho : s.heap.get? q = some (baObj b)) (h : Q b s) : wpAny M A (Builtin.Bytes.payload (.ref q)) Q E s := by
  unfold Builtin.Bytes.payload Builtin.Bytes.payload?
  exact wpAny_bind (wpAny_bind (wpAny_load ho (wpAny_pure (wpAny_pure h))))
/-- a method of a bytearray called, in clean contexts -/
theorem call_entry_C {T : String} {name : Str} {id : String} {B : Builtin} {self : Value} {rest : List Value} {Q : Value → Shared → Prop} (slot : Slot T name id) (hT : s.TypeIs self T)
    (hb : entryFor table id = some B) (ha : argsOk id ⟨self :: rest, []⟩)
    (hh : (["bytearray.__contains__", "bytearray.__mod__", "bytearray.__rmod__", "_struct.pack_into.held", "bytearray.find.held"] ++ Builtin.Bytes.decodersThatHold).contains id = false)
    (h : wpC (model prog w) A.in1 (B ⟨self :: rest, []⟩) (FinC (model prog w) A fun r s' => match r with | .ok (.ret v) => Q v s' | .ok _ => False | .error e => E e s') E s) :
    wpC (model prog w) A (call (.builtin id) (self :: rest)) Q E s := by
  refine wpC_call (codeC_of_tree rfl (wpC_any ?_))
  have hu : A.under (.call (.builtin id) ⟨self :: rest, []⟩) = A.in1 := rfl
  rw [hu]
  show wpAny _ A.in1 (checkBuiltinCall id ⟨self :: rest, []⟩ >>= fun _ => again (.builtin id ⟨self :: rest, []⟩)) _ _ _
  refine wpAny_bind (slot.check _ _ _ _ _ _ _ _ hT ha (wpAny_pure ⟨plainId_quiet slot.plain _, codeC_builtin hb (hlds_id hh) ?_⟩))
  rw [Around.under_plainId slot.plain _]
  exact h
theorem byteValue_of {M : Model} {n : Int} {t : Tok} {Q : UInt8 → Shared → Prop} (h0 : 0 ≤ n) (h1 : n < 256) (h : Q n.toNat.toUInt8 s) : wpAny M A (Builtin.Bytes.byteValue (.int n t)) Q E s := by
  unfold Builtin.Bytes.byteValue
  refine wpAny_bind (wpAny_of_eq (rfl : asIndex (.int n t) = pure n) ?_)
  exact bm_if_false (by simp only [Bool.or_eq_false_iff, decide_eq_false_iff_not]; lia) (wpAny_pure h)
theorem ba_append {h₀ : Heap} {L : Addr} {m : Str → Option Value} {news news' : List (Addr × Obj)} {n : Int} {t : Tok} {Q : Value → Shared → Prop} (F : Fr h₀ L s.heap m) (N : News h₀ L s.heap news)
    (U : Upd q (baObj b) (baObj (b.push n.toNat.toUInt8)) news news') (h0 : 0 ≤ n) (h1 : n < 256) (hz : b.size < 16777216)
    (h : ∀ h', Fr h₀ L h' m → News h₀ L h' news' → Q .none { s with heap := h' }) : wpC (model prog w) A (call (.builtin "bytearray.append") [.ref q, .int n t]) Q E s := by
  obtain ⟨pre, post, rfl, rfl, a1, a2⟩ := U.split
  have ho : s.heap.get? q = some (baObj b) := (N (q, baObj b) (by simp)).1
  refine call_entry_C BF.slot_append ⟨_, ho, rfl⟩ BF.entry_append (BF.args_append _ _) (by decide +kernel) ?_
  show wpC _ _ (Builtin.Bytes.byteValue (.int n t) >>= fun c => Builtin.Bytes.checkResize (.ref q) >>= fun _ => Builtin.Bytes.write (.ref q) (·.push c) >>= fun _ => ret .none) _ _ _
  refine wpC_bindA (byteValue_of h0 h1 (wpC_bind (wpC_resize ho (wpC_bindA (wpAny_write ho (by rw [Array.size_push, sizeLine_eq]; lia) fun hS => wpC_pure ?_)))))
  obtain ⟨F', N'⟩ := news_upd (f := Obj.mapBytearray (·.push n.toNat.toUInt8)) F N a1 a2 rfl rfl
  exact h _ F' N'
theorem tree_addAtEnd {h₀ : Heap} {L : Addr} {m : Str → Option Value} {news news' : List (Addr × Obj)} {more : Array UInt8} {Q : Fin → Shared → Prop} {M : Model} (F : Fr h₀ L s.heap m) (N : News h₀ L s.heap news)
    (U : Upd q (baObj b) (baObj (b ++ more)) news news') (hz : b.size + more.size ≤ 16777216)
    (h : ∀ h', Fr h₀ L h' m → News h₀ L h' news' → Q (.done (.ret .none)) { s with heap := h' }) :
    wpC M A (do
      if (!more.isEmpty) = true then Builtin.Bytes.checkResize (.ref q)
      Builtin.Bytes.write (.ref q) (· ++ more)
      ret .none) Q E s := by
  obtain ⟨pre, post, rfl, rfl, a1, a2⟩ := U.split
  have ho : s.heap.get? q = some (baObj b) := (N (q, baObj b) (by simp)).1
  have tail : wpC M A (do Builtin.Bytes.write (.ref q) (· ++ more); ret .none) Q E s := by
    refine wpC_bindA (wpAny_write ho (by rw [Array.size_append, sizeLine_eq]; lia) fun hS => wpC_pure ?_)
    obtain ⟨F', N'⟩ := news_upd (f := Obj.mapBytearray (· ++ more)) F N a1 a2 rfl rfl
    exact h _ F' N'
  by_cases hm : (!more.isEmpty) = true
  · exact wpC_ite_t hm (wpC_bind (wpC_resize ho tail))
  · exact wpC_ite_f hm tail
theorem ext_loop {l I S : Addr} {vs : List Value} {ns : List Int} (hh : A.handled = none) (hi : IntsAre vs ns) (hr : ∀ n ∈ ns, 0 ≤ n ∧ n < 256) (hz : ns.length ≤ sizeLine) (hIS : I ≠ S) (hlI : l ≠ I) (hlS : l ≠ S) :
    ∀ (k i : Nat) (s : Shared), ns.length - i = k → i ≤ ns.length → s.heap.IsList l vs.toArray → s.heap.IsListIter I l i → s.heap.get? S = some (baObj (byteArr (ns.take i))) →
      (∀ h' k', (∀ b o, b ≠ I → b ≠ S → s.heap.get? b = some o → h'.get? b = some o) → h'.get? S = some (baObj (byteArr ns)) → codeC (model prog w) A (.builtin "bytearray.extend.end" ⟨[.ref q, .ref l, .ref S], []⟩) R { s with heap := h', toks := k' }) →
      codeC (model prog w) A (.builtin "bytearray.extend.loop" ⟨[.ref q, .ref l, .ref I, .ref S], []⟩) R s := by
  have hlen : vs.length = ns.length := hi.length
  intro k
  induction k with
  | zero =>
    intro i s hk hle hl hit hS hR
    have hin : i = ns.length := by lia
    subst hin
    refine codeC_builtin BF.entry_extend_loop (hlds_id (by decide +kernel)) ?_
    rw [Around.under_plainId BF.plain_extend_loop _]
    show wpC _ A.in1 (pyNext (.ref I) >>= _) _ _ s
    refine wpC_bindA (wpAny_pyNext_list_end hh hit hl (by simp [hlen]) fun h' he => ?_)
    have hS' : h'.get? S = some (baObj (byteArr (ns.take ns.length))) := he S _ (Ne.symm hIS) hS
    rw [List.take_length] at hS'
    exact wpC_pure ⟨plainId_quiet BF.plain_extend_end _, hR h' _ (fun b o hb _ e => he b o hb e) hS'⟩
  | succ k ih =>
    intro i s hk hle hl hit hS hR
    have hlt : i < ns.length := by lia
    obtain ⟨x, hx⟩ : ∃ x, vs[i]? = some x := ⟨vs[i]'(by lia), List.getElem?_eq_getElem (by lia)⟩
    obtain ⟨n, t, rfl, hn⟩ := IntsAre.at hi i x hx
    obtain ⟨h0, h1⟩ := hr n (List.mem_of_getElem? hn)
    refine codeC_builtin BF.entry_extend_loop (hlds_id (by decide +kernel)) ?_
    rw [Around.under_plainId BF.plain_extend_loop _]
    show wpC _ A.in1 (pyNext (.ref I) >>= _) _ _ s
    refine wpC_bindA (wpAny_pyNext_list_item (x := .int n t) hit hl (by simpa using hx) fun h' hit' hs => ?_)
    have hS' : h'.get? S = some (baObj (byteArr (ns.take i))) := (hs.2 S (Ne.symm hIS)).trans hS
    refine wpC_bindA (wpAny_tryCatch (wpAny_holding (byteValue_of h0 h1 ?_)))
    refine wpC_bindA (wpAny_letGo ?_)
    refine wpC_bindA (wpAny_write hS' (by rw [Array.size_push, byteArr_size, List.length_take]; lia) fun hS₁ => ?_)
    have hS₂ : (h'.update S (Obj.mapBytearray (·.push n.toNat.toUInt8))).get? S = some (baObj (byteArr (ns.take (i + 1)))) := by
      rw [byteArr_take hn]; exact hS₁
    refine wpC_pure ⟨plainId_quiet BF.plain_extend_loop _, ih (i + 1) { s with heap := h'.update S (Obj.mapBytearray (·.push n.toNat.toUInt8)) } (by lia) hlt ?_ ?_ hS₂ fun h3 k' hk3 hS3 => ?_⟩
    · exact (hl.extBut hs.extBut hlI).extBut (Heap.SameBut.update ..).extBut hlS
    · exact hit'.extBut (Heap.SameBut.update ..).extBut hIS
    · exact hR h3 k' (fun b o hbI hbS e => hk3 b o hbI hbS ((Heap.get?_update_other _ _ (Ne.symm hbS)).trans (hs.extBut b o hbI e))) hS3
/-- extend by a list of ints -/
theorem ba_extend {h₀ : Heap} {L : Addr} {m : Str → Option Value} {news news' : List (Addr × Obj)} {l : Addr} {vs : List Value} {ns : List Int} {Q : Value → Shared → Prop} (hh : A.handled = none) (F : Fr h₀ L s.heap m) (N : News h₀ L s.heap news)
    (U : Upd q (baObj b) (baObj (b ++ byteArr ns)) news news') (hl : s.heap.IsList l vs.toArray) (hi : IntsAre vs ns) (hr : ∀ n ∈ ns, 0 ≤ n ∧ n < 256) (hz : b.size + ns.length ≤ 16777216)
    (h : ∀ h' tk', Fr h₀ L h' m → News h₀ L h' news' → Q .none { s with heap := h', toks := tk' }) : wpC (model prog w) A (call (.builtin "bytearray.extend") [.ref q, .ref l]) Q E s := by
  have ho : s.heap.get? q = some (baObj b) := by
    obtain ⟨pre, post, rfl, rfl, a1, a2⟩ := U.split
    exact (N (q, baObj b) (by simp)).1
  refine call_entry_C BF.slot_extend ⟨_, ho, rfl⟩ BF.entry_extend (BF.args_extend _ _) (by decide +kernel) ?_
  have hT : s.TypeIs (.ref l) "list" := hl.typeIs
  obtain ⟨ol, hol, hoc, nl, hod⟩ := id hl
  unfold Builtin.«bytearray.extend»
  refine wpC_bindA (wpAny_of_eq (a := (Value.ref q, Value.ref l)) rfl ?_)
  refine wpC_bindA (wpAny_specialOf hT PySem.F.bm_no_buffer ?_)
  refine wpC_ite_f (by decide) ?_
  refine wpC_bindA (wpAny_tryCatch (wpAny_pyIter_list hl ?_))
  have hl₁ : (s.heap.push { cls := .type "list_iterator", data := .fields #[.ref l, .int 0 0] }).IsList l vs.toArray := hl.push _
  have hT₁ : ({ s with heap := s.heap.push { cls := .type "list_iterator", data := .fields #[.ref l, .int 0 0] } } : Shared).TypeIs (.ref l) "list" := Heap.IsList.typeIs (s := { s with heap := s.heap.push { cls := .type "list_iterator", data := .fields #[.ref l, .int 0 0] } }) hl₁
  refine wpC_bindA (wpAny_holding ?_)
  unfold Builtin.Bytes.lengthHint
  refine wpAny_bind (wpAny_specialOf hT₁ slot_list_len.lookup ?_)
  dsimp only
  rw [PySem.F.bm_split]
  dsimp only
  refine wpAny_bind (wpAny_isInstance hT₁ PySem.F.bm_sub_list ?_)
  refine bm_if_false rfl ?_
  refine bm_if_true (by decide +kernel) ?_
  refine wpAny_pure ?_
  refine wpC_bindA ?_
  unfold Builtin.Bytes.newBytearray
  refine wpAny_newObj_type ?_ (Nat.zero_le _)
  have hI : ((s.heap.push { cls := .type "list_iterator", data := .fields #[.ref l, .int 0 0] }).push (baObj #[])).IsListIter s.heap.objs.size l 0 :=
    ⟨_, Heap.get?_push_of_some _ (Heap.get?_push_size _ rfl), rfl, rfl⟩
  have hlt : l < s.heap.objs.size := Heap.lt_size hol
  have hsz : (s.heap.push { cls := .type "list_iterator", data := .fields #[.ref l, .int 0 0] }).objs.size = s.heap.objs.size + 1 := Heap.size_push _ _
  refine wpC_pure ⟨plainId_quiet BF.plain_extend_loop _, ?_⟩
  refine ext_loop (l := l) (I := s.heap.objs.size) (S := (s.heap.push { cls := .type "list_iterator", data := .fields #[.ref l, .int 0 0] }).objs.size) (vs := vs) (ns := ns) hh hi hr (by rw [sizeLine_eq]; lia) (by rw [hsz]; exact Nat.ne_of_lt (Nat.lt_succ_self _)) (Nat.ne_of_lt hlt) (by rw [hsz]; exact Nat.ne_of_lt (Nat.lt_succ_of_lt hlt))
    ns.length 0 { s with heap := (s.heap.push { cls := .type "list_iterator", data := .fields #[.ref l, .int 0 0] }).push (baObj #[]) } rfl (Nat.zero_le _) (hl₁.push _) hI (Heap.get?_push_size _ rfl) fun h' k' hk hS => ?_
  have keep : ∀ b o, s.heap.get? b = some o → h'.get? b = some o := fun b o e => hk b o (Nat.ne_of_lt (Heap.lt_size e)) (by rw [hsz]; exact Nat.ne_of_lt (Nat.lt_succ_of_lt (Heap.lt_size e))) (Heap.get?_push_of_some _ (Heap.get?_push_of_some _ e))
  refine codeC_builtin BF.entry_extend_end (hlds_id (by decide +kernel)) ?_
  rw [Around.under_plainId BF.plain_extend_end _]
  unfold Builtin.«bytearray.extend.end»
  dsimp only
  refine wpC_bind (wpC_point (wpC_bindA (wpAny_payload hS ?_)))
  exact tree_addAtEnd (F.keptAll keep) (N.grown keep) U (by rw [byteArr_size]; exact hz) fun h2 F2 N2 => h h2 _ F2 N2
end
end
section
open Sem (wp)
section
variable {prog : Program} {w : World} {A : Around} {E : Value → Shared → Prop} {s : Shared} {R : Result → Shared → Prop} {q : Addr} {b : Array UInt8}
theorem own_buffer_ba {M : Model} {Q : Bool → Shared → Prop} (hT : s.TypeIs (.ref q) "bytearray") (h : Q true s) : wpAny M A (Builtin.Bytes.slotIsOwn (.ref q) "__buffer__") Q E s := by
  unfold Builtin.Bytes.slotIsOwn
  refine wpAny_bind (wpAny_specialOf (T := "bytearray") hT BF.look_buffer ?_)
  dsimp only
  have e1 : (!("bytearray.__buffer__".endsWith ("." ++ "__buffer__"))) = false := by decide +kernel
  have e2 : ("bytearray.__buffer__".dropRight ("__buffer__".length + 1)) = "bytearray" := by decide +kernel
  rw [e1, e2]
  refine wpAny_ite ?_
  rw [if_neg Bool.false_ne_true]
  exact wpAny_isInstance hT BF.sub_self h
theorem buffer_ba {M : Model} {id : String} {full : Bool} {Q : Option (Array UInt8) → Shared → Prop} (ho : s.heap.get? q = some (baObj b)) (h : Q (some b) s) : wpAny M A (Builtin.Bytes.buffer? id (.ref q) full) Q E s := by
  have hT : s.TypeIs (.ref q) "bytearray" := ⟨_, ho, rfl⟩
  unfold Builtin.Bytes.buffer?
  refine wpAny_bind (wpAny_specialOf hT BF.look_buffer ?_)
  dsimp only
  refine wpAny_bind (own_buffer_ba hT ?_)
  refine bm_if_false rfl ?_
  refine wpAny_bind (wpAny_specialOf hT BF.look_buffer ?_)
  (try dsimp only)
  refine wpAny_bind (own_release_ba hT ?_)
  refine bm_if_false rfl ?_
  exact wpAny_bind (wpAny_payload ho (wpAny_pure h))
theorem takeBuffer_ba {M : Model} {id : String} {Q : Option (Array UInt8 × Option Value) → Shared → Prop} (ho : s.heap.get? q = some (baObj b)) (h : Q (some (b, none)) s) :
    wpAny M A (Builtin.Bytes.takeBufferQuiet? id (.ref q) 0) Q E s := by
  have hT : s.TypeIs (.ref q) "bytearray" := ⟨_, ho, rfl⟩
  unfold Builtin.Bytes.takeBufferQuiet? Builtin.Bytes.takeBuffer?
  refine wpAny_bind (wpAny_attempt ?_)
  refine wpAny_bind (wpAny_specialOf hT BF.look_buffer ?_)
  dsimp only
  refine wpAny_bind (own_buffer_ba hT ?_)
  refine bm_if_false rfl ?_
  refine wpAny_bind (wpAny_specialOf hT BF.look_buffer ?_)
  (try dsimp only)
  refine wpAny_bind (buffer_ba ho ?_)
  exact wpAny_pure (wpAny_pure h)
/-- extend by another bytearray -/
theorem ba_extend_ba {h₀ : Heap} {L : Addr} {m : Str → Option Value} {news news' : List (Addr × Obj)} {p : Addr} {c : Array UInt8} {Q : Value → Shared → Prop} (F : Fr h₀ L s.heap m) (N : News h₀ L s.heap news)
    (U : Upd q (baObj b) (baObj (b ++ c)) news news') (hm : (p, baObj c) ∈ news) (hz : b.size + c.size ≤ 16777216)
    (h : ∀ h', Fr h₀ L h' m → News h₀ L h' news' → Q .none { s with heap := h' }) : wpC (model prog w) A (call (.builtin "bytearray.extend") [.ref q, .ref p]) Q E s := by
  have hp : s.heap.get? p = some (baObj c) := (N _ hm).1
  have ho : s.heap.get? q = some (baObj b) := by
    obtain ⟨pre, post, rfl, rfl, a1, a2⟩ := U.split
    exact (N (q, baObj b) (by simp)).1
  refine call_entry_C BF.slot_extend ⟨_, ho, rfl⟩ BF.entry_extend (BF.args_extend _ _) (by decide +kernel) ?_
  unfold Builtin.«bytearray.extend»
  refine wpC_bindA (wpAny_of_eq (a := (Value.ref q, Value.ref p)) rfl ?_)
  dsimp only
  refine wpC_bindA (wpAny_specialOf (T := "bytearray") ⟨_, hp, rfl⟩ BF.look_buffer ?_)
  refine wpC_ite_t rfl ?_
  refine wpC_bind (wpC_rule ?_)
  refine wpC_bindA (wpAny_payload ho ?_)
  refine wpC_bindA (takeBuffer_ba hp ?_)
  dsimp only
  refine wpC_ite_t rfl ?_
  refine wpC_mono (tree_addAtEnd (Q := fun fin s' => fin = .done (.ret .none) ∧ Q .none s') F N U hz fun h2 F2 N2 => ⟨rfl, h h2 F2 N2⟩) (fun fin s' hf => ?_) fun _ _ x => x
  obtain ⟨rfl, hq⟩ := hf
  exact hq
/-- bytes of a bytearray -/
theorem bytes_ba {Q : Value → Shared → Prop} (ho : s.heap.get? q = some (baObj b)) (hz : b.size ≤ 16777216)
    (h : ∀ t k, Q (.bytes b t) { s with toks := k }) : wpAny (model prog w) A (call (.type "bytes") [.ref q]) Q E s := by
  refine callType_codes (Q₁ := fun obj s₁ => s₁.TypeIs obj "bytes" ∧ Q obj s₁) PySem.F.bm_called (PySem.F.bm_typeCall _) PySem.F.entry_object_init ?hn fun obj s₁ h₁ => ?hx
  case hx => exact ⟨h₁.1, PySem.F.args_object_init_2 obj _, object_init_meets PySem.F.bm_called.init.lookup PySem.F.bm_called.made (by decide) prog w A.in1 _ s₁ ⟨h₁.1, rfl, h₁.2⟩⟩
  have hT : s.TypeIs (.ref q) "bytearray" := ⟨_, ho, rfl⟩
  refine codeAny_of_tree ?_
  show wpAny _ A.in1.in1 (do checkBuiltinCall "bytes.__new__" ⟨[.type "bytes", .ref q], []⟩; again (.builtin "bytes.__new__" ⟨[.type "bytes", .ref q], []⟩)) _ _ s
  refine wpAny_bind (wpAny_of_eq (PySem.F.bm_newCall _) (wpAny_pure ⟨plainId_quiet PySem.F.bm_plain _, codeAny_builtin PySem.F.bm_entry ?_⟩))
  rw [Around.under_plainId PySem.F.bm_plain _]
  unfold Builtin.«bytes.__new__»
  refine wpAny_bind (wpAny_of_eq (a := true) rfl ?_)
  refine bm_if_false rfl ?_
  refine wpAny_bind (wpAny_of_eq PySem.F.bm_sub ?_)
  refine bm_if_false rfl ?_
  refine wpAny_bind (wpAny_of_eq (PySem.F.bm_bind _) ?_)
  refine wpAny_bind (wpAny_of_eq (a := ()) rfl ?_)
  refine wpAny_bind (wpAny_of_eq (a := ()) rfl ?_)
  refine bm_if_false rfl ?_
  refine wpAny_bind (wpAny_specialOf hT BF.noBytes ?_)
  refine wpAny_bind (wpAny_bind ?_)
  show wpAny _ _ (load q >>= _) _ _ _
  refine wpAny_bind (wpAny_load ho ?_)
  refine wpAny_pure (wpAny_pure ?_)
  refine bm_if_false rfl ?_
  refine wpAny_bind (wpAny_specialOf hT BF.noIndex ?_)
  refine bm_if_true rfl ?_
  refine wpAny_bind ?_
  refine buffer_ba ho ?_
  dsimp only
  refine wpAny_bind (wpAny_rule (wpAny_bind (wpAny_mkBytes ?_ (by rw [sizeLine_eq]; exact hz))))
  have fin : wants (fun obj s₁ => s₁.TypeIs obj "bytes" ∧ Q obj s₁) E (.ok (.ret (.bytes b s.toks))) { s with toks := s.toks + 1 } := ⟨typeIs_bytes _ _ _, h _ _⟩
  show wpAny _ _ (do if (Value.type "bytes" == Value.type "bytes") = true then return ← ret (.bytes b s.toks) else _) _ _ _
  refine bm_if_true (by decide) ?_
  first
    | exact wpAny_pure fin
    | exact wpAny_pure (wpAny_pure fin)
    | exact wpAny_bind (wpAny_pure (wpAny_pure fin))
/-- bytes of bytes: themselves -/
theorem bytes_bytes {t : Tok} {Q : Value → Shared → Prop} (h : Q (.bytes b t) s) : wpAny (model prog w) A (call (.type "bytes") [.bytes b t]) Q E s := by
  refine callType_codes (Q₁ := fun obj s₁ => s₁.TypeIs obj "bytes" ∧ Q obj s₁) PySem.F.bm_called (PySem.F.bm_typeCall _) PySem.F.entry_object_init ?hn fun obj s₁ h₁ => ?hx
  case hx => exact ⟨h₁.1, PySem.F.args_object_init_2 obj _, object_init_meets PySem.F.bm_called.init.lookup PySem.F.bm_called.made (by decide) prog w A.in1 _ s₁ ⟨h₁.1, rfl, h₁.2⟩⟩
  have hT := typeIs_bytes s b t
  refine codeAny_of_tree ?_
  show wpAny _ A.in1.in1 (do checkBuiltinCall "bytes.__new__" ⟨[.type "bytes", .bytes b t], []⟩; again (.builtin "bytes.__new__" ⟨[.type "bytes", .bytes b t], []⟩)) _ _ s
  refine wpAny_bind (wpAny_of_eq (PySem.F.bm_newCall _) (wpAny_pure ⟨plainId_quiet PySem.F.bm_plain _, codeAny_builtin PySem.F.bm_entry ?_⟩))
  rw [Around.under_plainId PySem.F.bm_plain _]
  unfold Builtin.«bytes.__new__»
  refine wpAny_bind (wpAny_of_eq (a := true) rfl ?_)
  refine bm_if_false rfl ?_
  refine wpAny_bind (wpAny_of_eq PySem.F.bm_sub ?_)
  refine bm_if_false rfl ?_
  refine wpAny_bind (wpAny_of_eq (PySem.F.bm_bind _) ?_)
  refine wpAny_bind (wpAny_of_eq (a := ()) rfl ?_)
  refine wpAny_bind (wpAny_of_eq (a := ()) rfl ?_)
  refine bm_if_false rfl ?_
  refine wpAny_bind (wpAny_specialOf hT BF.look_bytes ?_)
  dsimp only
  refine wpAny_bind (wpAny_rule (wpAny_bind (wpAny_typeOf hT ?_)))
  refine bm_if_true (by decide) ?_
  have fin : wants (fun obj s₁ => s₁.TypeIs obj "bytes" ∧ Q obj s₁) E (.ok (.ret (.bytes b t))) s := ⟨hT, h⟩
  show wpAny _ _ (do if (Value.type "bytes" == Value.type "bytes") = true then return ← ret (.bytes b t) else _) _ _ _
  refine bm_if_true (by decide) ?_
  first
    | exact wpAny_pure fin
    | exact wpAny_pure (wpAny_pure fin)
    | exact wpAny_bind (wpAny_pure (wpAny_pure fin))
theorem len_ba {Q : Value → Shared → Prop} (ho : s.heap.get? q = some (baObj b)) (hfit : (b.size : Int) < 2 ^ 63)
    (h : ∀ t k, Q (.int b.size t) { s with toks := k }) : wpAny (model prog w) A (call (.builtin "len") [.ref q]) Q E s := by
  have hT : s.TypeIs (.ref q) "bytearray" := ⟨_, ho, rfl⟩
  refine call_function_entry kind_len plain_len entry_len (args_len1 _) ?_
  unfold Builtin.«len»
  refine wpAny_bind (m := oneArg "len" _) (wpAny_pure ?_)
  refine wpAny_bind (m := callSpecial? (.ref q) (Str.ofString "__len__")) (wpAny_callSpecial?_slot (name := Str.ofString "__len__") hT BF.slot_len
    (wpAny_call_entry BF.slot_len hT BF.entry_len ?_ (BF.args_len _)))
  show wpAny _ _ (Builtin.Bytes.payload (.ref q) >>= fun b => retInt b.size) _ _ s
  refine wpAny_bind (wpAny_payload ho ?_)
  refine wpAny_bind (wpAny_mkInt (wpAny_pure ⟨_, rfl, ?_⟩))
  refine wpAny_bind (wpAny_holding (wpAny_pure ?_))
  refine wpAny_bind (wpAny_letGo ?_)
  show wpAny _ _ (if ((b.size : Nat) : Int) < 0 then _ else _) _ _ _
  rw [if_neg (by lia)]
  show wpAny _ _ (if ((b.size : Nat) : Int) ≥ 2 ^ 63 then _ else _) _ _ _
  rw [if_neg (by lia)]
  exact wpAny_bind (wpAny_mkInt (wpAny_pure ⟨_, rfl, h _ _⟩))
end
end
section
open Sem (wp)
section
variable {prog : Program} {w : World} {A : Around} {E : Value → Shared → Prop} {K : Frag} {C : Addr} {R : Result → Shared → Prop} {h : Heap} {g : Array GenState} {d : Drawn} {t : Nat} {os : OsState}
theorem make_core_C {rest : List Value} {fI : Addr} (X : K.In h) (Y : Makes (model prog w) h C) (hi : Looks (model prog w) h (typeLookup (.ref C) "__init__") (some (.ref fI)))
    (hf : typeIn K (.ref fI) = some (.type "function"))
    (hq : codeC (model prog w) (A.under (.builtin "type.__call__" ⟨.ref C :: rest, []⟩)) (.call (.ref fI) ⟨.ref (h.objs.size + 1) :: rest, []⟩) (InitBack (h.objs.size + 1) R) ⟨(h.push emptyDict).push (instObj C h.objs.size), g, d, t, os⟩) :
    codeC (model prog w) A (.call (.ref C) ⟨rest, []⟩) R ⟨h, g, d, t, os⟩ := by
  have Y' := Y
  obtain ⟨⟨oc, od, cd, sl, hC, e1, e2, e4⟩, made, base, self, top, call, typ⟩ := Y
  refine codeC_of_tree rfl (wpC_any ?_)
  show wpAny _ _ (callAny (.ref C) _) _ _ _
  refine nd_load hC ?_
  show wpAny _ _ (callAny.viaDunder (.ref C) _) _ _ _
  unfold callAny.viaDunder
  refine wpAny_bind (call.at ?_)
  dsimp only
  rw [tc_bind]
  refine wpAny_bind (wpAny_pure (wpAny_bind (wpAny_pure ?_)))
  refine wpAny_pure (a := Fin.again (.call (.builtin "type.__call__") ⟨.ref C :: rest, []⟩)) (And.intro rfl ?_)
  refine codeC_of_tree rfl (wpC_any ?_)
  show wpAny _ A.in1 (checkBuiltinCall "type.__call__" ⟨.ref C :: rest, []⟩ >>= fun _ => again (.builtin "type.__call__" ⟨.ref C :: rest, []⟩)) _ _ _
  refine wpAny_bind (check_slot tc_kind tc_split typ (tc_args _ _ _) (wpAny_pure ⟨Code.quiet_builtin _ (by decide +kernel), codeC_builtin entry_typeCall (hlds_id (by decide +kernel)) ?_⟩))
  unfold Builtin.«type.__call__»
  have hm : Looks (model prog w) h (mroOf (.ref C)) cd.mro := ((Looks.ld (part := none) hC).andThen .now).andThen .now
  dsimp only
  refine wpC_ite_f (by intro e; cases (eq_of_beq e)) ?_
  refine wpC_bindA (hm.here ?_)
  refine wpC_ite_f (by rw [e4]; decide) ?_
  refine wpC_bindA (made.here ?_)
  dsimp only
  refine wpC_bind (wpC_pure ?_)
  refine wpC_bindA (wpAny_holding (wpAny_call (new_K (R := fun r s' => match r with | .ok (.ret v) => v = .ref (h.objs.size + 1) ∧ s' = ⟨(h.push emptyDict).push (instObj C h.objs.size), g, d, t, os⟩ | _ => False) Y' hi (.inl rfl) ⟨rfl, rfl⟩ |> fun z => codeAny_mono z fun r s₁ hr => ?_)))
  rcases r with e | (v | _ | _ | _)
  all_goals first | exact hr.elim | skip
  obtain ⟨rfl, rfl⟩ := hr
  have k : ∀ b o, h.get? b = some o → ((h.push emptyDict).push (instObj C h.objs.size)).get? b = some o := fun b o e => Heap.get?_push_of_some _ (Heap.get?_push_of_some _ e)
  have hx : ((h.push emptyDict).push (instObj C h.objs.size)).get? (h.objs.size + 1) = some (instObj C h.objs.size) := by heap_get
  have t1 : Looks (model prog w) ((h.push emptyDict).push (instObj C h.objs.size)) (typeOf (.ref (h.objs.size + 1))) (.ref C) := (Looks.ld hx).andThen .now
  refine wpC_bindA (wpAny_bind (t1.here ((self.keeps k).here ?_)))
  refine wpC_ite_f (by decide) ?_
  refine init_C (init := .ref fI) (fun Q' q' => wpAny_bind (t1.here ((hi.keeps k).here q'))) (fun Q' q' => (bind_fn (X.keeps k) _ hf).here q') ?_
  refine wpC_call (codeC_mono hq fun r s' z => ?_)
  rcases r with e | (v | _ | _ | _) <;> first | exact z | exact z.elim
theorem make_C {s : Shared} {h₀ : Heap} {L : Addr} {m : Str → Option Value} {news : List (Addr × Obj)} {Q : Value → Shared → Prop}
    {rest : List Value} {fI : Addr} (F : Fr h₀ L s.heap m) (N : News h₀ L s.heap news) (X₀ : K.In h₀) (hm : makesIn K C = true)
    (hi : findIn K (.ref C) "__init__" = some (some (.ref fI))) (hf : isFn K (.ref fI) = true)
    (h : ∀ x dx h', Fr h₀ L h' m → News h₀ L h' ((x, instObj C dx) :: (dx, dictOf [] 0) :: news) → (∀ p ∈ news, p.1 < dx) → dx < x →
      codeC (model prog w) (A.under (.builtin "type.__call__" ⟨.ref C :: rest, []⟩)) (.call (.ref fI) ⟨.ref x :: rest, []⟩) (InitBack x fun r s' => match r with | .ok (.ret v) => Q v s' | .ok _ => False | .error e => E e s') { s with heap := h' }) :
    wpC (model prog w) A (call (.ref C) rest) Q E s := by
  have X := X₀.keeps F.keep
  refine wpC_call ?_
  obtain ⟨hh, g, d, t, os⟩ := s
  refine make_core_C X (makes_of X hm) (looks_findIn X hi) (beq_iff_eq.mp hf) (h _ hh.objs.size _ ((F.push _).push _) ?_ (fun p hp => Heap.lt_size (N p hp).1) (Nat.lt_succ_self _))
  have := (N.push F emptyDict).push (F.push _) (instObj C hh.objs.size)
  rwa [Heap.size_push] at this
end
end
section
abbrev Pg : Program := PySem.Challenge.rw_nt0489_01.row.prog
/-- no goal of the clean logic -/
theorem isC {α : Type} {M : Model} {A : Around} {t : Sem α} {Q : α → Shared → Prop} {E : Value → Shared → Prop} {s : Shared} (h : wpC M A t Q E s) : wpC M A t Q E s := h
abbrev KN (K : Flow → Shared → Prop) (P : Shared → Prop) : Prop := ∀ s', P s' → K .next s'
structure KR (K : Flow → Shared → Prop) (Q : Flow → Shared → Prop) : Prop where
  ret : ∀ v s', Q (.ret v) s' → K (.ret v) s'
  brk : ∀ s', Q .brk s' → K .brk s'
  cont : ∀ s', Q .cont s' → K .cont s'
abbrev KT (K : Bool → Shared → Prop) (P : Bool → Shared → Prop) : Prop := ∀ b s', P b s' → K b s'
abbrev KE (K : Value → Shared → Prop) (E : Value → Shared → Prop) : Prop := ∀ e s', E e s' → K e s'
/-- the same for a code in the library's logic -/
theorem wpAny_G {M : Model} {A : Around} {E : Value → Shared → Prop} {s : Shared} {t : Sem Flow} {Q : Flow → Shared → Prop} (h : ∀ K : Flow → Shared → Prop, KN K (Q .next) → KR K Q → wpAny M A t K E s) : wpAny M A t Q E s :=
  h Q (fun _ x => x) ⟨fun _ _ x => x, fun _ x => x, fun _ x => x⟩
theorem kn_go {K : Flow → Shared → Prop} {P : Shared → Prop} {s : Shared} (h : KN K P) (g : P s) : K .next s := h s g
theorem kr_go {K Q : Flow → Shared → Prop} {v : Value} {s : Shared} (h : KR K Q) (g : Q (.ret v) s) : K (.ret v) s := h.ret v s g
/-- a statement: what follows it stands under a variable -/
theorem execs_cons_G {M : Model} {A : Around} {E : Value → Shared → Prop} {s : Shared} {env : Env} {st : Stmt} {rest : List Stmt} {Q : Flow → Shared → Prop}
    (h : ∀ K : Flow → Shared → Prop, KN K (wpC M A (execs rest env) Q E) → KR K Q → wpC M A (exec st env) K E s) :
    wpC M A (execs (st :: rest) env) Q E s :=
  execs_cons_C (h _ (fun _ x => x) ⟨fun _ _ x => x, fun _ x => x, fun _ x => x⟩)
/-- a test: its two sides stand under a variable -/
theorem exec_If_G {M : Model} {A : Around} {E : Value → Shared → Prop} {s : Shared} {env : Env} {test : PySem.Expr} {body orelse : List Stmt} {pos : Pos} {Q : Flow → Shared → Prop}
    (h : ∀ K : Bool → Shared → Prop, KT K (fun b s' => if b then wpC M A (execs body env) Q E s' else wpC M A (execs orelse env) Q E s') → wpAny M A (isTrue test env (eval test env)) K E s) :
    wpC M A (exec (.If test body orelse pos) env) Q E s :=
  exec_If_C (h _ fun _ _ x => x)
/-- a ledger: what it says holds, and its addresses differ -/
structure Led (h₀ : Heap) (L : Addr) (h : Heap) (l : List (Addr × Obj)) : Prop where
  news : News h₀ L h l
  nodup : (l.map (·.1)).Nodup
theorem ownOff_of {l rest : List (Addr × Obj)} (h : ((l ++ rest).map (·.1)).Nodup) : OwnOff rest (l.map (·.1)) := by
  rw [List.map_append, List.nodup_append] at h
  intro p hp b hb e
  exact h.2.2 b hb p.1 (List.mem_map_of_mem hp) e.symm
theorem nodup_rest {l rest : List (Addr × Obj)} (h : ((l ++ rest).map (·.1)).Nodup) : (rest.map (·.1)).Nodup := by
  rw [List.map_append, List.nodup_append] at h
  exact h.2.1
theorem nodup_own {l rest : List (Addr × Obj)} (h : ((l ++ rest).map (·.1)).Nodup) : (l.map (·.1)).Nodup := by
  rw [List.map_append, List.nodup_append] at h
  exact h.1
theorem nodup_join {l rest : List (Addr × Obj)} (h1 : (l.map (·.1)).Nodup) (h2 : OwnOff rest (l.map (·.1))) (h3 : (rest.map (·.1)).Nodup) : ((l ++ rest).map (·.1)).Nodup := by
  rw [List.map_append, List.nodup_append]
  refine ⟨h1, h3, fun a ha b hb e => ?_⟩
  obtain ⟨p, hp, rfl⟩ := List.mem_map.mp hb
  exact h2 p hp a ha e.symm
theorem allLt_ne {d : Nat} {l : List (Addr × Obj)} (h : AllLt d l) : ∀ p ∈ l, p.1 ≠ d := by
  intro p hp
  induction l with
  | nil => cases hp
  | cons x r ih =>
    rcases List.mem_cons.mp hp with rfl | hp
    · exact Nat.ne_of_lt h.1
    · exact ih h.2 hp
theorem ownOff_cons {rest : List (Addr × Obj)} {a : Addr} {l : List Addr} (h : ∀ p ∈ rest, p.1 ≠ a) (h' : OwnOff rest l) : OwnOff rest (a :: l) := by
  intro p hp b hb
  rcases List.mem_cons.mp hb with rfl | hb
  · exact h p hp
  · exact h' p hp b hb
theorem ownOff_nil {rest : List (Addr × Obj)} : OwnOff rest [] := fun _ _ _ hb => nomatch hb
theorem room2 {n a b k N : Nat} (h : n + k < N) (hk : a + b ≤ k) : n + a + b < N := by lia
theorem room3 {n a b c k N : Nat} (h : n + k < N) (hk : a + b + c ≤ k) : n + a + b + c < N := by lia
theorem ne2 {a b : Nat} (h : [a, b].Nodup) : a ≠ b := by simpa using h
theorem ne3 {a b c : Nat} (h : [a, b, c].Nodup) : a ≠ b ∧ a ≠ c ∧ b ≠ c := by
  simp only [List.nodup_cons, List.mem_cons, List.not_mem_nil, or_false, not_or, List.nodup_nil, and_true, not_false_eq_true] at h
  exact ⟨h.1.1, h.1.2, h.2⟩
theorem ne4 {a b c d : Nat} (h : [a, b, c, d].Nodup) : a ≠ b ∧ a ≠ c ∧ a ≠ d ∧ b ≠ c ∧ b ≠ d ∧ c ≠ d := by
  simp only [List.nodup_cons, List.mem_cons, List.not_mem_nil, or_false, not_or, List.nodup_nil, and_true, not_false_eq_true] at h
  exact ⟨h.1.1, h.1.2.1, h.1.2.2, h.2.1.1, h.2.1.2, h.2.2⟩
section
variable {h₀ h : Heap} {L : Addr} {a b c d : Addr × Obj} {l : List (Addr × Obj)}
theorem drop1 (N : News h₀ L h (a :: l)) : News h₀ L h l := fun p hp => N p (.tail _ hp)
theorem drop2 (N : News h₀ L h (a :: b :: l)) : News h₀ L h l := fun p hp => N p (.tail _ (.tail _ hp))
theorem drop3 (N : News h₀ L h (a :: b :: c :: l)) : News h₀ L h l := fun p hp => N p (.tail _ (.tail _ (.tail _ hp)))
theorem drop4 (N : News h₀ L h (a :: b :: c :: d :: l)) : News h₀ L h l := fun p hp => N p (.tail _ (.tail _ (.tail _ (.tail _ hp))))
end
theorem nd2 {a b : Nat} (h1 : a ≠ b) : [a, b].Nodup := by simp [h1]
theorem nd3 {a b c : Nat} (h1 : a ≠ b) (h2 : a ≠ c) (h3 : b ≠ c) : [a, b, c].Nodup := by simp [h1, h2, h3]
theorem nd4 {a b c d : Nat} (h1 : a ≠ b) (h2 : a ≠ c) (h3 : a ≠ d) (h4 : b ≠ c) (h5 : b ≠ d) (h6 : c ≠ d) : [a, b, c, d].Nodup := by simp [h1, h2, h3, h4, h5, h6]
theorem pick4 {h₀ h : Heap} {L : Addr} {q x dx o p : Addr × Obj} {l : List (Addr × Obj)} (N : News h₀ L h (q :: x :: dx :: o :: p :: l)) : News h₀ L h (x :: dx :: o :: q :: l) := by
  intro y hy
  simp only [List.mem_cons] at hy
  refine N y ?_
  simp only [List.mem_cons]
  rcases hy with h | h | h | h | h <;> simp only [h, true_or, or_true]
theorem pick3 {h₀ h : Heap} {L : Addr} {q x dx p : Addr × Obj} {l : List (Addr × Obj)} (N : News h₀ L h (q :: x :: dx :: p :: l)) : News h₀ L h (x :: dx :: q :: l) := by
  intro y hy
  simp only [List.mem_cons] at hy
  refine N y ?_
  simp only [List.mem_cons]
  rcases hy with h | h | h | h <;> simp only [h, true_or, or_true]
/-- what a call of the def at f does: with the objects `pre` (and any others, untouched) it ends, and hands on a value and objects as `post` says -/
def Ctr (w : World) (k : Nat) (f : Addr) (args : List Value) (pre : List (Addr × Obj)) (post : Value → List (Addr × Obj) → Prop) : Prop :=
  ∀ {A A₀ : Around} {base h₀ : Heap} {outer : List Env} {L : Addr} {m mg mb : Str → Option Value} {env : Env} {p : Program} {loose : List Str} {mean : ExcName → Option Value} {rest : List (Addr × Obj)} {s : Shared} {R : Result → Shared → Prop},
    Below A₀ base outer h₀ → Fr h₀ L s.heap m → (Mine0.hd.heap_1 w.params).In h₀ → Led h₀ L s.heap (pre ++ rest) → Top p loose mean mg mb h₀ → A.frames = some (env :: outer) → env.frame = some L → env.scope.kind = .function → A.handled = none →
    A.depth + k < recursionLimit → A.units + 8 * k < cLine →
    (∀ v h' tk' l', Fr h₀ L h' m → News h₀ L h' (l' ++ rest) → ((l' ++ rest).map (·.1)).Nodup → post v l' → R (.ok (.ret v)) { s with heap := h', toks := tk' }) →
    codeC (model PySem.Challenge.rw_nt0489_01.row.prog w) A (.call (.ref f) ⟨args, []⟩) R s
structure Dec where
  done : Bool
  left : Array UInt8
  out : Array UInt8
  plain : Int
  many : Int
structure DTok where
  (k1 k2 k3 k4 k5 t2 t4 t5 : Tok)
/-- the dict of a RunDecoder -/
abbrev decL (P : Params) (k1 k2 k3 k4 k5 t2 t4 t5 : Tok) (dn : Bool) (lf : Array UInt8) (o : Addr) (pl mn : Int) : Obj :=
  dictOf [⟨PyData.keyHash P (Str.ofString "is_done"), .str (Str.ofString "is_done") k1, .bool dn⟩, ⟨PyData.keyHash P (Str.ofString "left"), .str (Str.ofString "left") k2, .bytes lf t2⟩,
    ⟨PyData.keyHash P (Str.ofString "out"), .str (Str.ofString "out") k3, .ref o⟩, ⟨PyData.keyHash P (Str.ofString "plain"), .str (Str.ofString "plain") k4, .int pl t4⟩,
    ⟨PyData.keyHash P (Str.ofString "many"), .str (Str.ofString "many") k5, .int mn t5⟩] 5
abbrev decD (P : Params) (zt : DTok) (dn : Bool) (lf : Array UInt8) (o : Addr) (pl mn : Int) : Obj := decL P zt.k1 zt.k2 zt.k3 zt.k4 zt.k5 zt.t2 zt.t4 zt.t5 dn lf o pl mn
/-- a RunDecoder stands at x -/
def DecAt (P : Params) (x : Addr) (st : Dec) (l : List (Addr × Obj)) : Prop :=
  ∃ dx o zt, l = [(x, instObj 134 dx), (dx, decD P zt st.done st.left o st.plain st.many), (o, baObj st.out)]
theorem decAt_of {P : Params} {x dx o : Addr} {st : Dec} {k1 k2 k3 k4 k5 t2 t4 t5 : Tok} : DecAt P x st [(x, instObj 134 dx), (dx, dictOf [⟨PyData.keyHash P (Str.ofString "is_done"), .str (Str.ofString "is_done") k1, .bool st.done⟩, ⟨PyData.keyHash P (Str.ofString "left"), .str (Str.ofString "left") k2, .bytes st.left t2⟩,
    ⟨PyData.keyHash P (Str.ofString "out"), .str (Str.ofString "out") k3, .ref o⟩, ⟨PyData.keyHash P (Str.ofString "plain"), .str (Str.ofString "plain") k4, .int st.plain t4⟩,
    ⟨PyData.keyHash P (Str.ofString "many"), .str (Str.ofString "many") k5, .int st.many t5⟩] 5), (o, baObj st.out)] :=
  ⟨dx, o, ⟨k1, k2, k3, k4, k5, t2, t4, t5⟩, rfl⟩
def Dec.take (st : Dec) (n : Int) : Dec :=
  if 0 < st.plain then { st with out := st.out.push n.toNat.toUInt8, plain := st.plain - 1 }
  else if 0 < st.many then { st with out := st.out ++ byteArr (List.replicate st.many.toNat n), many := 0 }
  else if n = 128 then { st with done := true }
  else if n < 128 then { st with plain := n + 1 }
  else { st with many := 257 - n }
structure ETok where
  (k1 k2 k3 k4 k5 k6 k7 k8 t2 t4 t5 t7 t8 : Tok)
/-- the dict of a RunEncoder -/
abbrev encL (P : Params) (k1 k2 k3 k4 k5 k6 k7 k8 t2 t4 t5 t7 t8 : Tok) (dn : Bool) (lf : Array UInt8) (o : Addr) (rc tk : Int) (p : Addr) (sm mn : Int) : Obj :=
  dictOf [⟨PyData.keyHash P (Str.ofString "is_done"), .str (Str.ofString "is_done") k1, .bool dn⟩, ⟨PyData.keyHash P (Str.ofString "left"), .str (Str.ofString "left") k2, .bytes lf t2⟩,
    ⟨PyData.keyHash P (Str.ofString "out"), .str (Str.ofString "out") k3, .ref o⟩, ⟨PyData.keyHash P (Str.ofString "record"), .str (Str.ofString "record") k4, .int rc t4⟩,
    ⟨PyData.keyHash P (Str.ofString "taken"), .str (Str.ofString "taken") k5, .int tk t5⟩, ⟨PyData.keyHash P (Str.ofString "plain"), .str (Str.ofString "plain") k6, .ref p⟩,
    ⟨PyData.keyHash P (Str.ofString "same"), .str (Str.ofString "same") k7, .int sm t7⟩, ⟨PyData.keyHash P (Str.ofString "many"), .str (Str.ofString "many") k8, .int mn t8⟩] 8
structure Enc where
  out : Array UInt8
  taken : Int
  plain : Array UInt8
  same : Int
  many : Int
abbrev encD (P : Params) (zt : ETok) (dn : Bool) (lf : Array UInt8) (o : Addr) (rc tk : Int) (p : Addr) (sm mn : Int) : Obj := encL P zt.k1 zt.k2 zt.k3 zt.k4 zt.k5 zt.k6 zt.k7 zt.k8 zt.t2 zt.t4 zt.t5 zt.t7 zt.t8 dn lf o rc tk p sm mn
/-- a RunEncoder stands at x -/
def EncAt (P : Params) (x : Addr) (dn : Bool) (lf : Array UInt8) (rc : Int) (st : Enc) (l : List (Addr × Obj)) : Prop :=
  ∃ dx o p zt, l = [(x, instObj 189 dx), (dx, encD P zt dn lf o rc st.taken p st.same st.many), (o, baObj st.out), (p, baObj st.plain)]
theorem encAt_of {P : Params} {x dx o p : Addr} {dn : Bool} {lf : Array UInt8} {rc : Int} {st : Enc} {k1 k2 k3 k4 k5 k6 k7 k8 t2 t4 t5 t7 t8 : Tok} : EncAt P x dn lf rc st [(x, instObj 189 dx), (dx, dictOf [⟨PyData.keyHash P (Str.ofString "is_done"), .str (Str.ofString "is_done") k1, .bool dn⟩, ⟨PyData.keyHash P (Str.ofString "left"), .str (Str.ofString "left") k2, .bytes lf t2⟩,
    ⟨PyData.keyHash P (Str.ofString "out"), .str (Str.ofString "out") k3, .ref o⟩, ⟨PyData.keyHash P (Str.ofString "record"), .str (Str.ofString "record") k4, .int rc t4⟩,
    ⟨PyData.keyHash P (Str.ofString "taken"), .str (Str.ofString "taken") k5, .int st.taken t5⟩, ⟨PyData.keyHash P (Str.ofString "plain"), .str (Str.ofString "plain") k6, .ref p⟩,
    ⟨PyData.keyHash P (Str.ofString "same"), .str (Str.ofString "same") k7, .int st.same t7⟩, ⟨PyData.keyHash P (Str.ofString "many"), .str (Str.ofString "many") k8, .int st.many t8⟩] 8), (o, baObj st.out), (p, baObj st.plain)] :=
  ⟨dx, o, p, ⟨k1, k2, k3, k4, k5, k6, k7, k8, t2, t4, t5, t7, t8⟩, rfl⟩
def cpOut (out plain : Array UInt8) : Array UInt8 := if 0 < plain.size then out.push ((plain.size : Int) - 1).toNat.toUInt8 ++ plain else out
def crOut (out plain : Array UInt8) (sm mn : Int) : Array UInt8 :=
  if mn < 3 then (if 128 < (plain.size : Int) + mn then cpOut out plain else out) else cpOut out plain ++ byteArr [257 - mn, sm]
def crPlain (plain : Array UInt8) (sm mn : Int) : Array UInt8 :=
  if mn < 3 then (if 128 < (plain.size : Int) + mn then #[] else plain) ++ byteArr (List.replicate mn.toNat sm) else #[]
theorem cpOut_size (out plain : Array UInt8) : (cpOut out plain).size ≤ out.size + plain.size + 1 := by
  unfold cpOut
  split
  · simp only [Array.size_append, Array.size_push]; lia
  · lia
theorem crPlain_size {plain : Array UInt8} {sm mn : Int} (h0 : 0 ≤ mn) (h : plain.size ≤ 128) : (crPlain plain sm mn).size ≤ 128 := by
  unfold crPlain
  split
  · simp only [Array.size_append, byteArr_size, List.length_replicate]
    split
    · simp only [List.size_toArray, List.length_nil]; lia
    · lia
  · simp
theorem crOut_size {out plain : Array UInt8} {sm mn : Int} : (crOut out plain sm mn).size ≤ out.size + plain.size + 3 := by
  have := cpOut_size out plain
  unfold crOut
  split
  · split <;> lia
  · simp only [Array.size_append, byteArr_size, List.length_cons, List.length_nil]; lia
def Enc.closePlain (st : Enc) : Enc := ⟨cpOut st.out st.plain, st.taken, #[], st.same, st.many⟩
def Enc.closeRun (st : Enc) : Enc := ⟨crOut st.out st.plain st.same st.many, st.taken, crPlain st.plain st.same st.many, st.same, 0⟩
def Enc.closeAll (st : Enc) : Enc := st.closeRun.closePlain
def Enc.take (rc : Int) (st : Enc) (n : Int) : Enc :=
  let s1 := if st.many = 128 ∨ (0 < st.many ∧ n ≠ st.same) then st.closeRun else st
  let s2 := { s1 with same := n, many := s1.many + 1, taken := s1.taken + 1 }
  if s2.taken = rc then { s2.closeAll with taken := 0 } else s2
/-- a call of a def whose contract stands -/
theorem use_ctr {w : World} {k : Nat} {f : Addr} {args : List Value} {pre : List (Addr × Obj)} {post : Value → List (Addr × Obj) → Prop} (C : Ctr w k f args pre post)
    {A A₀ : Around} {base h₀ : Heap} {outer : List Env} {L : Addr} {m mg mb : Str → Option Value} {env : Env} {p : Program} {loose : List Str} {mean : ExcName → Option Value} {rest : List (Addr × Obj)} {s : Shared} {Q E : Value → Shared → Prop}
    (N : News h₀ L s.heap (pre ++ rest)) (nd : ((pre ++ rest).map (·.1)).Nodup) (B : Below A₀ base outer h₀) (F : Fr h₀ L s.heap m) (X : (Mine0.hd.heap_1 w.params).In h₀) (T : Top p loose mean mg mb h₀)
    (hA : A.frames = some (env :: outer)) (hf : env.frame = some L) (hk : env.scope.kind = .function) (hh : A.handled = none) (hd : A.depth + k < recursionLimit) (hu : A.units + 8 * k < cLine)
    (h : ∀ v h' tk' l', Fr h₀ L h' m → News h₀ L h' (l' ++ rest) → ((l' ++ rest).map (·.1)).Nodup → post v l' → Q v { s with heap := h', toks := tk' }) :
    wpC (model PySem.Challenge.rw_nt0489_01.row.prog w) A (call (.ref f) args) Q E s :=
  wpC_call (C B F X ⟨N, nd⟩ T hA hf hk hh hd hu h)
/-- the same, from within a def -/
theorem use_ctr2 {w : World} {k : Nat} {f : Addr} {args : List Value} {pre : List (Addr × Obj)} {post : Value → List (Addr × Obj) → Prop} (C : Ctr w k f args pre post)
    {A A₀ : Around} {base h₀ : Heap} {outer : List Env} {L : Addr} {m mg mb : Str → Option Value} {env : Env} {p : Program} {loose : List Str} {mean : ExcName → Option Value} {rest : List (Addr × Obj)} {s : Shared} {Q E : Value → Shared → Prop}
    (F : Fr h₀ L s.heap m) (N : News h₀ L s.heap (pre ++ rest)) (nd : ((pre ++ rest).map (·.1)).Nodup) (B : Below A₀ base outer h₀) (X : (Mine0.hd.heap_1 w.params).In h₀) (T : Top p loose mean mg mb h₀)
    (hA : A.frames = some outer) (hf : env.frame = some L) (hk : env.scope.kind = .function) (hh : A.handled = none) (hd : A.depth + 1 + k < recursionLimit) (hu : A.units + 3 + 8 * k < cLine)
    (h : ∀ v h' tk' l', Fr h₀ L h' m → News h₀ L h' (l' ++ rest) → ((l' ++ rest).map (·.1)).Nodup → post v l' → Q v { s with heap := h', toks := tk' }) :
    wpC (model PySem.Challenge.rw_nt0489_01.row.prog w) (A.deeper env) (call (.ref f) args) Q E s :=
  use_ctr C N nd B F X T (by simp only [Around.deeper, hA, Option.map_some]) hf hk hh hd hu h
theorem use_encN {w : World} {k : Nat} {f : Addr} {args : List Value} {pre : List (Addr × Obj)} {x : Addr} {dn : Bool} {lf ou pl : Array UInt8} {rc tk sm mn : Int} (C : Ctr w k f args pre (fun v l' => v = .none ∧ EncAt w.params x dn lf rc ⟨ou, tk, pl, sm, mn⟩ l'))
    {A A₀ : Around} {base h₀ : Heap} {outer : List Env} {L : Addr} {m mg mb : Str → Option Value} {env : Env} {p : Program} {loose : List Str} {mean : ExcName → Option Value} {rest : List (Addr × Obj)} {s : Shared} {Q E : Value → Shared → Prop}
    (F : Fr h₀ L s.heap m) (N : News h₀ L s.heap (pre ++ rest)) (nd : ((pre ++ rest).map (·.1)).Nodup) (B : Below A₀ base outer h₀) (X : (Mine0.hd.heap_1 w.params).In h₀) (T : Top p loose mean mg mb h₀)
    (hA : A.frames = some outer) (hf : env.frame = some L) (hk : env.scope.kind = .function) (hh : A.handled = none) (hd : A.depth + 1 + k < recursionLimit) (hu : A.units + 3 + 8 * k < cLine)
    (h : ∀ (h' : Heap) (tk' : Tok) (dx o p : Addr) (zt : ETok), Fr h₀ L h' m → News h₀ L h' ((x, instObj 189 dx) :: (dx, encD w.params zt dn lf o rc tk p sm mn) :: (o, baObj ou) :: (p, baObj pl) :: rest) → (x :: dx :: o :: p :: rest.map (·.1)).Nodup → OwnOff rest [x, dx, o, p] → (rest.map (·.1)).Nodup → x ≠ dx → x ≠ o → x ≠ p → dx ≠ o → dx ≠ p → o ≠ p → Q .none { s with heap := h', toks := tk' }) :
    wpC (model PySem.Challenge.rw_nt0489_01.row.prog w) (A.deeper env) (call (.ref f) args) Q E s := by
  refine use_ctr2 C F N nd B X T hA hf hk hh hd hu ?_
  rintro v h' tk' l' F' N' nd' ⟨rfl, dx, o, p, zt, rfl⟩
  have e3 := nodup_own nd'
  simp only [List.map_cons, List.map_nil] at e3
  obtain ⟨n1, n2, n3, n4, n5, n6⟩ := ne4 e3
  exact h h' tk' dx o p zt F' N' nd' (ownOff_of nd') (nodup_rest nd') n1 n2 n3 n4 n5 n6
theorem use_encB {w : World} {k : Nat} {f : Addr} {args : List Value} {pre : List (Addr × Obj)} {x : Addr} {dn : Bool} {lf ou pl : Array UInt8} {rc tk sm mn : Int} {bs : Array UInt8} (C : Ctr w k f args pre (fun v l' => (∃ t, v = .bytes bs t) ∧ EncAt w.params x dn lf rc ⟨ou, tk, pl, sm, mn⟩ l'))
    {A A₀ : Around} {base h₀ : Heap} {outer : List Env} {L : Addr} {m mg mb : Str → Option Value} {env : Env} {p : Program} {loose : List Str} {mean : ExcName → Option Value} {rest : List (Addr × Obj)} {s : Shared} {Q E : Value → Shared → Prop}
    (F : Fr h₀ L s.heap m) (N : News h₀ L s.heap (pre ++ rest)) (nd : ((pre ++ rest).map (·.1)).Nodup) (B : Below A₀ base outer h₀) (X : (Mine0.hd.heap_1 w.params).In h₀) (T : Top p loose mean mg mb h₀)
    (hA : A.frames = some outer) (hf : env.frame = some L) (hk : env.scope.kind = .function) (hh : A.handled = none) (hd : A.depth + 1 + k < recursionLimit) (hu : A.units + 3 + 8 * k < cLine)
    (h : ∀ (h' : Heap) (tk' : Tok) (dx o p : Addr) (zt : ETok) (t : Tok), Fr h₀ L h' m → News h₀ L h' ((x, instObj 189 dx) :: (dx, encD w.params zt dn lf o rc tk p sm mn) :: (o, baObj ou) :: (p, baObj pl) :: rest) → (x :: dx :: o :: p :: rest.map (·.1)).Nodup → OwnOff rest [x, dx, o, p] → (rest.map (·.1)).Nodup → x ≠ dx → x ≠ o → x ≠ p → dx ≠ o → dx ≠ p → o ≠ p → Q (.bytes bs t) { s with heap := h', toks := tk' }) :
    wpC (model PySem.Challenge.rw_nt0489_01.row.prog w) (A.deeper env) (call (.ref f) args) Q E s := by
  refine use_ctr2 C F N nd B X T hA hf hk hh hd hu ?_
  rintro v h' tk' l' F' N' nd' ⟨⟨t, rfl⟩, dx, o, p, zt, rfl⟩
  have e3 := nodup_own nd'
  simp only [List.map_cons, List.map_nil] at e3
  obtain ⟨n1, n2, n3, n4, n5, n6⟩ := ne4 e3
  exact h h' tk' dx o p zt t F' N' nd' (ownOff_of nd') (nodup_rest nd') n1 n2 n3 n4 n5 n6
theorem use_decN {w : World} {k : Nat} {f : Addr} {args : List Value} {pre : List (Addr × Obj)} {x : Addr} {dn : Bool} {lf ou : Array UInt8} {pl mn : Int} (C : Ctr w k f args pre (fun v l' => v = .none ∧ DecAt w.params x ⟨dn, lf, ou, pl, mn⟩ l'))
    {A A₀ : Around} {base h₀ : Heap} {outer : List Env} {L : Addr} {m mg mb : Str → Option Value} {env : Env} {p : Program} {loose : List Str} {mean : ExcName → Option Value} {rest : List (Addr × Obj)} {s : Shared} {Q E : Value → Shared → Prop}
    (F : Fr h₀ L s.heap m) (N : News h₀ L s.heap (pre ++ rest)) (nd : ((pre ++ rest).map (·.1)).Nodup) (B : Below A₀ base outer h₀) (X : (Mine0.hd.heap_1 w.params).In h₀) (T : Top p loose mean mg mb h₀)
    (hA : A.frames = some outer) (hf : env.frame = some L) (hk : env.scope.kind = .function) (hh : A.handled = none) (hd : A.depth + 1 + k < recursionLimit) (hu : A.units + 3 + 8 * k < cLine)
    (h : ∀ (h' : Heap) (tk' : Tok) (dx o : Addr) (zt : DTok), Fr h₀ L h' m → News h₀ L h' ((x, instObj 134 dx) :: (dx, decD w.params zt dn lf o pl mn) :: (o, baObj ou) :: rest) → (x :: dx :: o :: rest.map (·.1)).Nodup → OwnOff rest [x, dx, o] → (rest.map (·.1)).Nodup → x ≠ dx → x ≠ o → dx ≠ o → Q .none { s with heap := h', toks := tk' }) :
    wpC (model PySem.Challenge.rw_nt0489_01.row.prog w) (A.deeper env) (call (.ref f) args) Q E s := by
  refine use_ctr2 C F N nd B X T hA hf hk hh hd hu ?_
  rintro v h' tk' l' F' N' nd' ⟨rfl, dx, o, zt, rfl⟩
  have e3 := nodup_own nd'
  simp only [List.map_cons, List.map_nil] at e3
  obtain ⟨n1, n2, n3⟩ := ne3 e3
  exact h h' tk' dx o zt F' N' nd' (ownOff_of nd') (nodup_rest nd') n1 n2 n3
theorem use_decB {w : World} {k : Nat} {f : Addr} {args : List Value} {pre : List (Addr × Obj)} {x : Addr} {dn : Bool} {lf ou : Array UInt8} {pl mn : Int} {bs : Array UInt8} (C : Ctr w k f args pre (fun v l' => (∃ t, v = .bytes bs t) ∧ DecAt w.params x ⟨dn, lf, ou, pl, mn⟩ l'))
    {A A₀ : Around} {base h₀ : Heap} {outer : List Env} {L : Addr} {m mg mb : Str → Option Value} {env : Env} {p : Program} {loose : List Str} {mean : ExcName → Option Value} {rest : List (Addr × Obj)} {s : Shared} {Q E : Value → Shared → Prop}
    (F : Fr h₀ L s.heap m) (N : News h₀ L s.heap (pre ++ rest)) (nd : ((pre ++ rest).map (·.1)).Nodup) (B : Below A₀ base outer h₀) (X : (Mine0.hd.heap_1 w.params).In h₀) (T : Top p loose mean mg mb h₀)
    (hA : A.frames = some outer) (hf : env.frame = some L) (hk : env.scope.kind = .function) (hh : A.handled = none) (hd : A.depth + 1 + k < recursionLimit) (hu : A.units + 3 + 8 * k < cLine)
    (h : ∀ (h' : Heap) (tk' : Tok) (dx o : Addr) (zt : DTok) (t : Tok), Fr h₀ L h' m → News h₀ L h' ((x, instObj 134 dx) :: (dx, decD w.params zt dn lf o pl mn) :: (o, baObj ou) :: rest) → (x :: dx :: o :: rest.map (·.1)).Nodup → OwnOff rest [x, dx, o] → (rest.map (·.1)).Nodup → x ≠ dx → x ≠ o → dx ≠ o → Q (.bytes bs t) { s with heap := h', toks := tk' }) :
    wpC (model PySem.Challenge.rw_nt0489_01.row.prog w) (A.deeper env) (call (.ref f) args) Q E s := by
  refine use_ctr2 C F N nd B X T hA hf hk hh hd hu ?_
  rintro v h' tk' l' F' N' nd' ⟨⟨t, rfl⟩, dx, o, zt, rfl⟩
  have e3 := nodup_own nd'
  simp only [List.map_cons, List.map_nil] at e3
  obtain ⟨n1, n2, n3⟩ := ne3 e3
  exact h h' tk' dx o zt t F' N' nd' (ownOff_of nd') (nodup_rest nd') n1 n2 n3
/-- where the ways meet -/
def MeetsJ (s : Shared) (J : Heap → Prop) (s' : Shared) : Prop := ∃ h' tk', s' = { s with heap := h', toks := tk' } ∧ J h'
/-- a statement whose ways meet again -/
theorem execs_cons_J {M : Model} {A : Around} {E : Value → Shared → Prop} {s : Shared} {env : Env} {st : Stmt} {rest : List Stmt} {Q : Flow → Shared → Prop} (J : Heap → Prop)
    (h1 : ∀ K : Flow → Shared → Prop, KN K (MeetsJ s J) → KR K (fun _ _ => False) → wpC M A (exec st env) K E s)
    (h2 : ∀ h' tk', J h' → wpC M A (execs rest env) Q E { s with heap := h', toks := tk' }) : wpC M A (execs (st :: rest) env) Q E s :=
  execs_cons_C (wpC_mono (h1 (fun f s' => match f with | .next => MeetsJ s J s' | _ => False) (fun _ x => x) ⟨fun _ _ x => x, fun _ x => x, fun _ x => x⟩)
    (fun f s' z => by cases f <;> first | exact z.elim | (obtain ⟨h', tk', rfl, z⟩ := z; exact h2 h' tk' z)) (fun _ _ x => x))
/-- a test whose ways meet again -/
theorem exec_If_J {M : Model} {A : Around} {E : Value → Shared → Prop} {s : Shared} {env : Env} {test : PySem.Expr} {body orelse : List Stmt} {pos : Pos} {Q : Flow → Shared → Prop} (P : Prop)
    (h1 : ∀ K : Bool → Shared → Prop, KT K (fun b s' => (∃ tk', s' = { s with toks := tk' }) ∧ (b = true ↔ P)) → wpAny M A (isTrue test env (eval test env)) K E s)
    (h2 : ∀ tk', P → wpC M A (execs body env) Q E { s with toks := tk' }) (h3 : ∀ tk', ¬ P → wpC M A (execs orelse env) Q E { s with toks := tk' }) :
    wpC M A (exec (.If test body orelse pos) env) Q E s :=
  exec_If_C (wpAny_mono (h1 _ (fun _ _ x => x)) (fun b s' z => by
    obtain ⟨⟨tk', rfl⟩, z⟩ := z
    cases b
    · exact h3 tk' fun p => Bool.false_ne_true (z.2 p)
    · exact h2 tk' (z.1 rfl)) (fun _ _ x => x))
theorem apart_e {x dx o p : Addr} {rest : List (Addr × Obj)} (h : (x :: dx :: o :: p :: rest.map (·.1)).Nodup) :
    OwnOff rest [x, dx, o, p] ∧ (rest.map (·.1)).Nodup ∧ x ≠ dx ∧ x ≠ o ∧ x ≠ p ∧ dx ≠ o ∧ dx ≠ p ∧ o ≠ p := by
  have h' : (([(x, baObj #[]), (dx, baObj #[]), (o, baObj #[]), (p, baObj #[])] ++ rest).map (·.1)).Nodup := h
  exact ⟨ownOff_of h', nodup_rest h', ne4 (nodup_own h')⟩
end
section
/-- an object of an exception class of the text, with a dict of its own -/
abbrev excObj (C d : Addr) (vs : Array Value) : Obj := { cls := .ref C, dict := some d, data := .fields vs }
/-- the exception at e stands with its first entry of the way back, whose flight mark is fl -/
def TrD (base h : Heap) (e C d : Addr) (a0 fl : Value) : Prop :=
  ∃ vs T oT ts, h.get? e = some (excObj C d vs) ∧ vs[0]? = some a0 ∧ vs[1]? = some (.ref T) ∧ base.get? T = none ∧ T ≠ e ∧ h.get? T = some oT ∧ oT.data = .fields ts ∧ ts[3]? = some fl
section
variable {M : Model} {A : Around} {E : Value → Shared → Prop} {s : Shared}
theorem entry_D {base : Heap} {env : Env} {outer : List Env} {L e C d : Addr} {vs : Array Value} {head a0 : Value} {hadNext : Bool} {Q : Unit → Shared → Prop}
    (hfr : A.frames = some (env :: outer)) (hl : s.heap.FunFrames base (env :: outer)) (hf : env.frame = some L)
    (he : s.heap.get? e = some (excObj C d vs)) (hkb : base.StaysIn s.heap) (hen : base.get? e = none) (hsz : 1 < vs.size) (h0 : vs[0]? = some a0)
    (h : ∀ h', base.StaysIn h' → h'.FunFrames base (env :: outer) → TrD base h' e C d a0 (rawInt L) → s.heap.UpToSlots h' → Q () { s with heap := h' }) :
    wpAny M A (do let a ← frameOf env; let pl ← entryPlaceOf L hadNext; let b ← EntryCells.newEntry head a .none (rawInt L) .none pl; setField (.ref e) 1 b) Q E s := by
  have away : e ∉ (env :: outer).filterMap (·.frame) := fun hm => by
    obtain ⟨_, o, ho, hnf⟩ := hl.mem hm
    rw [he] at ho
    cases ho
    exact hnf vs rfl
  refine wpAny_bind (wpAny_frameOf_fun hfr hl hf fun h₁ hs₁ => wpAny_bind (wpAny_entryPlaceOf fun pl hpl => ?_))
  unfold EntryCells.newEntry newFields
  refine wpAny_bind (wpAny_newObj_type ?_ (hpl.sizeOk5 _ _ _ _ _))
  generalize hTo : ({ cls := .type "traceback", dict := none, data := .fields ([head, .ref L, .none, rawInt L, .none] ++ (if pl.isEmpty then List.replicate 6 Value.none else pl)).toArray } : Obj) = To
  have e1 : h₁.get? e = some (excObj C d vs) := (hs₁.2.1 e away).trans he
  have e2 := Heap.get?_push_of_some (h := h₁) To e1
  have keep : ∀ b o, b ≠ e → h₁.get? b = some o → ((h₁.push To).update e (Obj.mapFields (·.setIfInBounds 1 (Value.ref h₁.objs.size)))).get? b = some o := fun b o hbe hb => by
    rw [Heap.get?_update_other _ _ (Ne.symm hbe)]
    exact Heap.get?_push_of_some _ hb
  have noRec : ∀ b o, s.heap.get? b = some o → (∀ vs, o.data ≠ .fields vs) → b ≠ e := fun b o hb hnf q => by
    rw [q, he] at hb
    cases hb
    exact hnf vs rfl
  refine wpAny_setField e2 rfl hsz (h _ ?_ ?_ ?_ ?_)
  · intro b o hbo
    refine keep b o (fun q => by rw [q, hen] at hbo; cases hbo) ?_
    exact (hs₁.2.1 b fun hm => by rw [(hl.mem hm).1] at hbo; cases hbo).trans (hkb b o hbo)
  · refine hl.of_keeps fun b o hb hnf => ?_
    obtain ⟨sl, hs⟩ := hs₁.2.2 b o hb
    exact ⟨_, keep b _ (noRec b o hb hnf) hs, rfl⟩
  · have kb : base.StaysIn h₁ := fun b o hbo => (hs₁.2.1 b fun hm => by rw [(hl.mem hm).1] at hbo; cases hbo).trans (hkb b o hbo)
    have hTe : h₁.objs.size ≠ e := Nat.ne_of_gt (Heap.lt_size e1)
    refine ⟨vs.setIfInBounds 1 (.ref h₁.objs.size), h₁.objs.size, To, _, Heap.get?_update_self _ e2 rfl, ?_, ?_, kb.fresh, hTe, ?_, by rw [← hTo], ?_⟩
    · rw [Array.getElem?_setIfInBounds_ne (by decide)]
      exact h0
    · simp [hsz]
    · rw [Heap.get?_update_other _ _ (Ne.symm hTe)]
      exact Heap.get?_push_size h₁ (by rw [← hTo]; rfl)
    · first | (simp; done) | (rcases hpl with rfl | ⟨_, _, _, _, _, _, _, rfl⟩ <;> simp)
  · intro b o hb hnf
    obtain ⟨sl, hs⟩ := hs₁.2.2 b o hb
    exact ⟨sl, keep b _ (noRec b o hb hnf) hs⟩
theorem note_first_D {base : Heap} {env : Env} {outer : List Env} {L e C d : Addr} {vs : Array Value} {a0 : Value} {Q : Unit → Shared → Prop}
    (hfr : A.frames = some (env :: outer)) (hl : s.heap.FunFrames base (env :: outer)) (hf : env.frame = some L)
    (he : s.heap.get? e = some (excObj C d vs)) (hkb : base.StaysIn s.heap) (hen : base.get? e = none) (h1 : vs[1]? = some .none) (h0 : vs[0]? = some a0)
    (h : ∀ h', base.StaysIn h' → h'.FunFrames base (env :: outer) → TrD base h' e C d a0 (rawInt L) → s.heap.UpToSlots h' → Q () { s with heap := h' }) : wpAny M A (noteFrame (.ref e) env) Q E s := by
  unfold noteFrame
  simp only [hf]
  refine wpAny_bind (wpAny_field he rfl h1 ?_)
  rw [if_neg (by decide)]
  exact entry_D hfr hl hf he hkb hen (Array.getElem?_eq_some_iff.mp h1).1 h0 h
theorem note_next_D {base : Heap} {env : Env} {outer : List Env} {L e C d : Addr} {a0 : Value} {Q : Unit → Shared → Prop}
    (hfr : A.frames = some (env :: outer)) (hl : s.heap.FunFrames base (env :: outer)) (hf : env.frame = some L)
    (ht : TrD base s.heap e C d a0 .none) (hkb : base.StaysIn s.heap) (hen : base.get? e = none)
    (h : ∀ h', base.StaysIn h' → h'.FunFrames base (env :: outer) → TrD base h' e C d a0 (rawInt L) → s.heap.UpToSlots h' → Q () { s with heap := h' }) : wpAny M A (noteFrame (.ref e) env) Q E s := by
  obtain ⟨vs, T, oT, ts, he, h0, h1, hnT, hTe, hT, hdT, h3⟩ := ht
  unfold noteFrame
  simp only [hf]
  refine wpAny_bind (wpAny_field he rfl h1 ?_)
  rw [if_pos (show (Value.ref T != Value.none) = true from by simp)]
  refine wpAny_bind (wpAny_field hT hdT h3 ?_)
  rw [if_neg (show ¬ ((Value.none == rawInt L) = true) from by simp [rawInt])]
  refine wpAny_bind (wpAny_setField hT hdT (Array.getElem?_eq_some_iff.mp h3).1 ?_)
  have other : ∀ b, b ≠ T → (s.heap.update T (Obj.mapFields (·.setIfInBounds 3 Value.none))).get? b = s.heap.get? b := fun b hb => Heap.get?_update_other _ _ (Ne.symm hb)
  have noRec : ∀ b o, s.heap.get? b = some o → (∀ vs, o.data ≠ .fields vs) → b ≠ T := fun b o hb hnf q => by
    rw [q, hT] at hb
    cases hb
    exact hnf ts hdT
  refine entry_D hfr (hl.of_keeps fun b o hb hnf => ⟨o, (other b (noRec b o hb hnf)).trans hb, rfl⟩) hf ((other e (Ne.symm hTe)).trans he)
    (fun b o hbo => (other b fun q => by rw [q, hnT] at hbo; cases hbo).trans (hkb b o hbo)) hen (Array.getElem?_eq_some_iff.mp h1).1 h0
    fun h' x1 x2 x3 x4 => h h' x1 x2 x3 fun b o hb hnf => x4 b o ((other b (noRec b o hb hnf)).trans hb) hnf
theorem flight_D {base : Heap} {l : List Env} {e C d : Addr} {a0 fl : Value} {Q : Unit → Shared → Prop} (hkb : base.StaysIn s.heap) (hl : s.heap.FunFrames base l) (ht : TrD base s.heap e C d a0 fl)
    (h : ∀ h', base.StaysIn h' → h'.FunFrames base l → TrD base h' e C d a0 .none → s.heap.UpToSlots h' → Q () { s with heap := h' }) : wpAny M A (setFlight (.ref e) none) Q E s := by
  obtain ⟨vs, T, oT, ts, he, h0, h1, hnT, hTe, hT, hdT, h3⟩ := ht
  unfold setFlight
  refine wpAny_bind (wpAny_field he rfl h1 ?_)
  rw [if_pos (show (Value.ref T != Value.none) = true from by simp)]
  have other : ∀ b, b ≠ T → (s.heap.update T (Obj.mapFields (·.setIfInBounds 3 Value.none))).get? b = s.heap.get? b := fun b hb => Heap.get?_update_other _ _ (Ne.symm hb)
  have noRec : ∀ b o, s.heap.get? b = some o → (∀ vs, o.data ≠ .fields vs) → b ≠ T := fun b o hb hnf q => by
    rw [q, hT] at hb
    cases hb
    exact hnf ts hdT
  have hd' := Obj.data_mapFields hdT (·.setIfInBounds 3 Value.none)
  refine wpAny_setField hT hdT (Array.getElem?_eq_some_iff.mp h3).1 (h _ (fun b o hbo => (other b fun q => by rw [q, hnT] at hbo; cases hbo).trans (hkb b o hbo)) (hl.of_keeps fun b o hb hnf => ⟨o, (other b (noRec b o hb hnf)).trans hb, rfl⟩)
    ⟨vs, T, _, _, (other e (Ne.symm hTe)).trans he, h0, h1, hnT, hTe, Heap.get?_update_self _ hT (Obj.isFreed_of_fields hd'), hd', ?_⟩ fun b o hb hnf => ⟨o.slots, (other b (noRec b o hb hnf)).trans hb⟩)
  have := (Array.getElem?_eq_some_iff.mp h3).1
  simp [this]
/-- the exception at e is on its way out through the frames l -/
def FlyD (base : Heap) (l : List Env) (e C d : Addr) (a0 : Value) (h : Heap) : Prop := base.StaysIn h ∧ base.get? e = none ∧ h.FunFrames base l ∧ TrD base h e C d a0 .none
theorem leave_first_D {base : Heap} {env : Env} {outer : List Env} {L e C d : Addr} {vs : Array Value} {a0 : Value} {Q : Unit → Shared → Prop}
    (hfr : A.frames = some (env :: outer)) (hl : s.heap.FunFrames base (env :: outer)) (hf : env.frame = some L)
    (he : s.heap.get? e = some (excObj C d vs)) (hkb : base.StaysIn s.heap) (hen : base.get? e = none) (h1 : vs[1]? = some .none) (h0 : vs[0]? = some a0)
    (h : ∀ h', FlyD base outer e C d a0 h' → s.heap.UpToSlots h' → Q () { s with heap := h' }) : wpAny M A (leaving env (.ref e)) Q E s := by
  unfold leaving
  refine wpAny_bind (note_first_D hfr hl hf he hkb hen h1 h0 fun h₁ x1 x2 x3 x4 => flight_D x1 x2 x3 fun h₂ y1 y2 y3 y4 => h h₂ ⟨y1, hen, y2.2.2, y3⟩ (x4.trans y4))
theorem leave_next_D {base : Heap} {env : Env} {outer : List Env} {L e C d : Addr} {a0 : Value} {Q : Unit → Shared → Prop}
    (hfr : A.frames = some (env :: outer)) (hf : env.frame = some L) (hy : FlyD base (env :: outer) e C d a0 s.heap)
    (h : ∀ h', FlyD base outer e C d a0 h' → s.heap.UpToSlots h' → Q () { s with heap := h' }) : wpAny M A (leaving env (.ref e)) Q E s := by
  obtain ⟨hkb, hen, hl, ht⟩ := hy
  unfold leaving
  refine wpAny_bind (note_next_D hfr hl hf ht hkb hen fun h₁ x1 x2 x3 x4 => flight_D x1 x2 x3 fun h₂ y1 y2 y3 y4 => h h₂ ⟨y1, hen, y2.2.2, y3⟩ (x4.trans y4))
end
end
section
open Sem (wp)
open Builtin Builtin.ObjectAttr
/-- the tail of the ways of an exception class whose base is one of the text's own -/
abbrev tailX (P : Addr) : List Value := [.ref P, .type "Exception", .type "BaseException", .type "object"]
section
variable {prog : Program} {w : World} {A : Around} {E : Value → Shared → Prop} {h : Heap} {g : Array GenState} {d : Drawn} {t : Nat} {os : OsState} {R : Result → Shared → Prop}
variable {nm q : Str} {C N P : Addr} {bs : List Value} {hdct : Bool} {sn : List Str} {sub : List Value} {ab : Bool} {col : Option Bool} {dd : Option Addr} {k0 k1 k2 k3 k5 : Option Value}
theorem check_exc_new {M : Model} {rest : List Value} {Q : Unit → Shared → Prop} (hC : h.get? C = some (excClassObj nm q C N bs (tailX P) hdct sn sub ab col dd k0 k1 k2 k3 k5 "Exception.__new__"))
    (hq : Q () ⟨h, g, d, t, os⟩) : wpAny M A (checkBuiltinCall "Exception.__new__" ⟨.ref C :: rest, []⟩) Q E ⟨h, g, d, t, os⟩ := by
  have Fn := PySem.F.excBase_Exception
  have hcont : (Value.ref C :: tailX P).contains (.type "Exception") = true := by simp [tailX]
  have hstar := Fn.noStar
  simp only [checkBuiltinCall, Fn.newKind, Fn.newSplit, Fn.newRow]
  repeat (first | refine wpAny_loadPart_at hC ?_ | (refine wpAny_isSubtype_exc hC ?_; rw [hcont]) | refine wpAny_staticBase_exc hC ?_ | refine wpAny_madeBy_exc hC ?_ | simp only [bne_self_eq_false, Bool.false_eq_true, if_false] | wp_step)
  exact hq
theorem code_exc_new {rest : List Value} (hC : h.get? C = some (excClassObj nm q C N bs (tailX P) hdct sn sub ab col dd k0 k1 k2 k3 k5 "Exception.__new__"))
    (hq : R (.ok (.ret (.ref (h.objs.size + 1)))) ⟨(h.push { cls := .type "tuple", data := .seq rest.toArray }).push
      { cls := .ref C, data := .fields #[.ref h.objs.size, .none, .none, .none, .bool false, .none] }, g, d, t, os⟩) (hrest : rest.length ≤ sizeLine) :
    codeAny (model prog w) A (.builtin "Exception.__new__" ⟨.ref C :: rest, []⟩) R ⟨h, g, d, t, os⟩ := by
  have Fn := PySem.F.excBase_Exception
  have hends := Fn.ends
  have hcB : (Value.ref C :: tailX P).contains (.type "Exception") = true := by simp [tailX]
  have hcA : (Value.ref C :: tailX P).contains (.type "AttributeError") = false := by simp [tailX]
  have hcN : (Value.ref C :: tailX P).contains (.type "NameError") = false := by simp [tailX]
  refine codeAny_builtinAt Fn.entry ?_
  unfold Builtin.«BaseException.__new__»
  refine PySem.wpAt_bind ?_
  show PySem.wpAt _ _ _ (stack >>= _) _ _ _
  refine PySem.wpAt_bind (PySem.wpAt_stack fun p below => PySem.wpAt_of_wpAny ?_)
  wp_walk
  refine PySem.wpAt_of_wpAny ?_
  rw [Fn.owner]
  repeat (first | with_reducible refine wpAny_madeHere_exc Fn.canon hC ?_ | with_reducible refine wpAny_loadPart_at hC ?_ | (with_reducible refine wpAny_isSubtype_exc hC ?_; first | rw [hcB] | rw [hcA] | rw [hcN]) | wp_step)
  show R _ _
  rw [Heap.size_push]
  exact hq
end
section
variable {prog : Program} {w : World} {A : Around} {E : Value → Shared → Prop} {K : Frag} {h : Heap} {g : Array GenState} {d : Drawn} {t : Nat} {os : OsState} {R : Result → Shared → Prop}
variable {nm q : Str} {C N P : Addr} {bs : List Value} {hdct : Bool} {sn : List Str} {sub : List Value} {ab : Bool} {col : Option Bool} {dd : Option Addr} {k0 k1 k2 k3 k5 : Option Value}
abbrev excNew (C t : Addr) : Obj := { cls := .ref C, data := .fields #[.ref t, .none, .none, .none, .bool false, .none] }
abbrev tupOf (vs : List Value) : Obj := { cls := .type "tuple", data := .seq vs.toArray }
theorem exc_core_C {rest : List Value} {fI : Addr} (X : K.In h) (hC : h.get? C = some (excClassObj nm q C N bs (tailX P) hdct sn sub ab col dd k0 k1 k2 k3 k5 "Exception.__new__")) (hi : findIn K (.ref C) "__init__" = some (some (.ref fI)))
    (hf : typeIn K (.ref fI) = some (.type "function")) (hrest : rest.length ≤ sizeLine)
    (hq : codeC (model prog w) (A.under (.builtin "type.__call__" ⟨.ref C :: rest, []⟩)) (.call (.ref fI) ⟨.ref (h.objs.size + 1) :: rest, []⟩) (InitBack (h.objs.size + 1) R) ⟨(h.push (tupOf rest)).push (excNew C h.objs.size), g, d, t, os⟩) :
    codeC (model prog w) A (.call (.ref C) ⟨rest, []⟩) R ⟨h, g, d, t, os⟩ := by
  have Fn := PySem.F.excBase_Exception
  have f1 := tc_lookup
  have f2 := tc_bind (.ref C)
  have hT : (⟨h, g, d, t, os⟩ : Shared).TypeIs (.ref C) "type" := ⟨_, hC, rfl⟩
  refine codeC_of_tree rfl (wpC_any ?_)
  show wpAny _ _ (callAny (.ref C) _) _ _ _
  repeat (any_goals (first | assumption | with_reducible refine wpAny_loadPart_at hC ?_ | wp_step))
  refine ⟨rfl, ?_⟩
  refine codeC_of_tree rfl (wpC_any ?_)
  show wpAny _ A.in1 (checkBuiltinCall "type.__call__" ⟨.ref C :: rest, []⟩ >>= fun _ => again (.builtin "type.__call__" ⟨.ref C :: rest, []⟩)) _ _ _
  refine wpAny_bind (wpAny_check_type_call_sub hC (wpAny_pure ⟨Code.quiet_builtin _ (by decide +kernel), codeC_builtin entry_typeCall (hlds_id (by decide +kernel)) ?_⟩))
  unfold Builtin.«type.__call__»
  have hm : Looks (model prog w) h (mroOf (.ref C)) (.ref C :: tailX P) := ((Looks.ld (part := none) hC).andThen .now).andThen .now
  dsimp only
  refine wpC_ite_f (by intro e; cases (eq_of_beq e)) ?_
  refine wpC_bindA (hm.here ?_)
  refine wpC_ite_f (by intro e; cases e) ?_
  refine wpC_bindA (wpAny_madeBy_exc hC ?_)
  dsimp only
  refine wpC_bind (wpC_pure ?_)
  refine wpC_bindA (wpAny_holding (wpAny_call (codeAny_call_builtin_code (Code.quiet_builtin _ Fn.quiet) (check_exc_new hC (code_exc_new (R := fun r s' => r = .ok (.ret (.ref (h.objs.size + 1))) ∧ s' = ⟨(h.push (tupOf rest)).push (excNew C h.objs.size), g, d, t, os⟩) hC ⟨rfl, rfl⟩ hrest)) |> fun z => codeAny_mono z fun r s₁ hr => ?_)))
  obtain ⟨rfl, rfl⟩ := hr
  dsimp only
  have k : ∀ b o, h.get? b = some o → ((h.push (tupOf rest)).push (excNew C h.objs.size)).get? b = some o := fun b o e => Heap.get?_push_of_some _ (Heap.get?_push_of_some _ e)
  have hx : ((h.push (tupOf rest)).push (excNew C h.objs.size)).get? (h.objs.size + 1) = some (excNew C h.objs.size) := by heap_get
  have t1 : Looks (model prog w) ((h.push (tupOf rest)).push (excNew C h.objs.size)) (typeOf (.ref (h.objs.size + 1))) (.ref C) := (Looks.ld hx).andThen .now
  have hself : Looks (model prog w) h (isSubtype (.ref C) (.ref C)) true := fun A Q E s k q => by
    obtain ⟨hp, g, d, tk, os⟩ := s
    refine wpAny_isSubtype_exc (k _ _ hC) ?_
    have : (Value.ref C :: tailX P).contains (.ref C) = true := by simp
    rw [this]
    exact q
  refine wpC_bindA (wpAny_bind (t1.here ((hself.keeps k).here ?_)))
  refine wpC_ite_f (by decide) ?_
  refine init_C (init := .ref fI) (fun Q' q' => wpAny_bind (t1.here (((looks_findIn X hi).keeps k).here q'))) (fun Q' q' => (bind_fn (X.keeps k) _ hf).here q') ?_
  refine wpC_call (codeC_mono hq fun r s' z => ?_)
  rcases r with e | (v | _ | _ | _) <;> first | exact z | exact z.elim
end
end
section
open Sem (wp)
open Builtin Builtin.ObjectAttr
section
variable {prog : Program} {w : World} {A : Around} {E : Value → Shared → Prop} {K : Frag} {s : Shared} {h₀ : Heap} {L : Addr} {m : Str → Option Value} {news : List (Addr × Obj)}
theorem news_swap {h : Heap} {a b : Addr × Obj} {l : List (Addr × Obj)} (N : News h₀ L h (a :: b :: l)) : News h₀ L h (b :: a :: l) := by
  intro y hy
  refine N y ?_
  simp only [List.mem_cons] at hy ⊢
  rcases hy with h | h | h <;> simp only [h, true_or, or_true]
theorem refuse_tailX (self : Value) (C P : Addr) : refuseLoop self "__setattr__" (.ref C :: tailX P) = pure () := by
  rw [refuseLoop_ref, refuseLoop_ref]
  exact PySem.F.store_Exception.passes self
/-- an attribute set on a new exception that has no dict yet -/
theorem set_exc {x t C P : Addr} {name : Str} {v : Value} {Q : Unit → Shared → Prop} (F : Fr h₀ L s.heap m) (X₀ : K.In h₀) (N : News h₀ L s.heap ((x, excNew C t) :: news)) (e9 : ∀ p ∈ news, p.1 ≠ x)
    (hc : (clsIn K C).map (fun cd => (cd.hasDict, cd.mro)) = some (true, .ref C :: tailX P)) (hs : findIn K (.ref C) "__setattr__" = some (some (.builtin "object.__setattr__"))) (ht : findIn K (.ref C) name = some none)
    (h : ∀ d h', Fr h₀ L h' m → News h₀ L h' ((x, excObj C d #[.ref t, .none, .none, .none, .bool false, .none]) :: (d, dictOf [⟨PyData.keyHash w.params name, .str name (s.toks + 1), v⟩] 1) :: news) → (∀ p ∈ news, p.1 < d) → x < d →
      Q () { s with heap := h', toks := s.toks + 2 }) :
    wpAny (model prog w) A (setAttr (.ref x) name v) Q E s := by
  have X := X₀.keeps F.keep
  have SF := PySem.F.store_object
  obtain ⟨cd, hcd, hcm⟩ := Option.map_eq_some_iff.mp hc
  obtain ⟨hdc, hmro⟩ := Prod.mk.inj hcm
  have hx : s.heap.get? x = some (excNew C t) := (N _ (.head _)).1
  have t1 : Looks (model prog w) s.heap (typeOf (.ref x)) (.ref C) := (Looks.ld hx).andThen .now
  have hm : Looks (model prog w) s.heap (mroOf (.ref C)) (.ref C :: tailX P) := hmro ▸ (looks_clsIn X hcd).andThen .now
  have hsub : Looks (model prog w) s.heap (isSubtype (.ref C) (.type "object")) true := by
    refine looks_mroIn X ?_
    unfold mroIn
    rw [hcd, Option.bind_some, hmro, if_neg (by simp)]
    simp [tailX]
  refine wpAny_bind (wpAny_mkText (wpAny_bind (wpAny_bind (wpAny_bind (t1 _ _ _ _ (fun _ _ e => e) (looks_findIn X hs _ _ _ _ (fun _ _ e => e) (wpAny_holding ?_)))))))
  rw [SF.slot.bind]
  refine wpAny_bind (wpAny_pure (wpAny_bind (wpAny_call (codeAny_mono (R := fun r s' => r = .ok (.ret .none) ∧ Q () s') ?_ fun r s' z => ?_))))
  · refine codeAny_call_builtin SF.slot.plain SF.entry (@check_slot (model prog w) _ _ { s with toks := s.toks + 1 } "object.__setattr__" "object" "__setattr__" (.ref x) [.str name s.toks, v] [] _ SF.kind SF.split (t1.andThen hsub) (SF.args (.ref x) (.str name s.toks) v) ?_)
    show wpAny _ _ (Builtin.«object.__setattr__» ⟨[.ref x, .str name s.toks, v], []⟩) _ _ _
    rw [osa_eq, refuse_eq]
    refine wpAny_bind (wpAny_bind (t1 _ _ _ _ (fun _ _ e => e) (wpAny_bind (hm _ _ _ _ (fun _ _ e => e) ?_))))
    rw [refuse_tailX]
    refine wpAny_pure (wpAny_bind (t1 _ _ _ _ (fun _ _ e => e) (wpAny_bind (looks_findIn X ht _ _ _ _ (fun _ _ e => e) ?_))))
    show wpAny _ _ (pure none >>= _) _ _ _
    refine wpAny_bind (wpAny_pure ?_)
    dsimp only
    refine wpAny_bind (wpAny_pure ?_)
    show wpAny _ _ (ownDictForStores (.ref x) >>= _) _ _ _
    refine wpAny_bind ?_
    unfold ownDictForStores instanceDict
    dsimp only
    refine wpAny_bind (wpAny_loadPart hx ?_)
    dsimp only
    refine wpAny_bind (looks_clsIn X hcd _ _ _ _ (fun _ _ e => e) ?_)
    rw [hdc]
    simp only [Bool.not_true, Bool.false_eq_true, if_false]
    rw [if_neg (by simp [typeHasDict])]
    refine wpAny_bind (wpAny_alloc ?_)
    have N1 := News.push F N { cls := .type "dict", data := .dict #[] }
    have F1 := F.push { cls := .type "dict", data := .dict #[] }
    have hx1 : (s.heap.push { cls := .type "dict", data := .dict #[] }).get? x = some (excNew C t) := Heap.get?_push_of_some _ hx
    have hxs : x < s.heap.objs.size := Heap.lt_size hx
    refine wpAny_bind (wpAny_update hx1 ?_)
    have lt9 : ∀ p ∈ news, p.1 < s.heap.objs.size := fun p hp => Heap.lt_size (N p (.tail _ hp)).1
    obtain ⟨F2, N2⟩ := news_upd (pre := [(s.heap.objs.size, _)]) (post := news) (d := x) (o' := excObj C s.heap.objs.size #[.ref t, .none, .none, .none, .bool false, .none]) (f := fun o => { o with dict := some s.heap.objs.size }) F1 N1
      (fun p hp => by rw [List.mem_singleton.mp hp]; exact Nat.ne_of_gt hxs) e9 rfl rfl
    refine wpAny_pure ?_
    dsimp only
    have D := (N2 (s.heap.objs.size, _) (.head _)).1
    refine wpAny_bind (wpAny_pure (wpAny_bind ?_))
    unfold nsSet
    refine wpAny_bind (wpAny_bind (wpAny_askSetting (wpAny_pure (wpAny_bind (wpAny_mkText (wpAny_bind (wpAny_loadPart D ?_)))))))
    dsimp only
    rw [aRefKeyMayBeTheName_at, show (!(#[] : Array DictEntry).any (·.key.isStr name) && (#[] : Array DictEntry).any (·.refKey)) = false from by simp]
    obtain ⟨F3, N3⟩ := news_upd (pre := []) (post := (x, excObj C s.heap.objs.size #[.ref t, .none, .none, .none, .bool false, .none]) :: news) (d := s.heap.objs.size) (o' := dictOf [⟨PyData.keyHash w.params name, .str name (s.toks + 1), v⟩] 1) (f := Obj.putName name (PyData.keyHash w.params name) (.str name (s.toks + 1)) v) F2 N2
      (fun p hp => nomatch hp) (fun p hp => by rcases List.mem_cons.mp hp with rfl | hp; exact Nat.ne_of_lt hxs; exact Nat.ne_of_lt (lt9 p hp)) (by show Obj.putName _ _ _ _ (dictOf [] 0) = _; rw [putName_dict]; rfl) rfl
    refine wpAny_updatePart D ?_
    refine wpAny_bind (wpAny_lookBehind (N3 _ (.head _)).1 (pastItsLine_dict (by rw [List.size_toArray, sizeLine_eq]; simp)) ?_)
    exact wpAny_pure ⟨rfl, h _ _ F3 (news_swap N3) lt9 hxs⟩
  · obtain ⟨rfl, z⟩ := z
    exact wpAny_pure (wpAny_pure z)
end
end
local macro_rules | `(tactic| walk_at "om") => `(tactic| ((repeat (with_reducible rename @Ne Nat _ _ => hn9; clear hn9)); lia))
local macro_rules | `(tactic| k_all) => `(tactic| (refine allLt_ne ?kz; (case kz => assumption)))
local macro_rules | `(tactic| k_ne) => `(tactic| (refine neN ?_; (try dsimp only); first | assumption | exact Ne.symm (by assumption) | exact Nat.ne_of_lt (by assumption) | exact Nat.ne_of_gt (by assumption)))
local macro_rules | `(tactic| walk_at "rng") => `(tactic| (intro k9 hk9; (try simp only [List.flatten_replicate_singleton, List.mem_replicate, List.mem_cons, List.not_mem_nil, or_false] at hk9); walk_at "om"))
local macro_rules | `(tactic| walk_at "szs") => `(tactic| ((try simp only [List.flatten_replicate_singleton, List.length_replicate, List.length_cons, List.length_nil, Array.size_push, Array.size_append, byteArr_size, List.size_toArray]); walk_at "om"))
local macro_rules | `(tactic| walk_at "ands") => `(tactic| repeat (rename _ ∧ _ => hc9; obtain ⟨hc91, hc92⟩ := hc9))
local macro_rules | `(tactic| walk_at "off") => `(tactic| first | exact ownOff_nil | (refine ownOff_cons ?oa ?ob; (case oa => k_all); (case ob => walk_at "off")) | fail "off")
local macro_rules | `(tactic| walk_at "call builtin:len") => `(tactic| (k_here; (with_reducible show wpAny _ _ (call (Value.builtin "len") [Value.ref _]) _ _ _); (refine len_ba (News.get (by k_asm) (by k_mem)) (by walk_at "om") ?_); intro t9 k9))
local macro_rules | `(tactic| walk_at "getMethod ref") => `(tactic| (k_here; (with_reducible show wpAny _ _ (getMethod (Value.ref _) (Str.ofString "append") _) _ _ _); (refine getMethod_ba (News.get (by k_asm) (by k_mem)) BF.slot_append BF.type_append ?_)))
local macro_rules | `(tactic| walk_at "getMethod ref") => `(tactic| (k_here; (with_reducible show wpAny _ _ (getMethod (Value.ref _) (Str.ofString "extend") _) _ _ _); (refine getMethod_ba (News.get (by k_asm) (by k_mem)) BF.slot_extend BF.type_extend ?_)))
section
theorem begins_D2 : True := by
  w_top off
  exact trivial
theorem enc_close_plain (w : World) {x dx o p : Addr} {zt : ETok} {dn : Bool} {lf out plain : Array UInt8} {rc tk sm mn : Int} (hp : plain.size ≤ 128) (hz : out.size + 1000 ≤ 16777216) :
    Ctr w 1 172 [.ref x] [(x, instObj 189 dx), (dx, encD w.params zt dn lf o rc tk p sm mn), (o, baObj out), (p, baObj plain)]
      (fun v l' => v = .none ∧ EncAt w.params x dn lf rc ⟨cpOut out plain, tk, #[], sm, mn⟩ l') := by
  intro A A₀ base h₀ outer L m mg mb env pg loose mean rest s R B F X₀ LD T hA hf hke hh hd hu ret
  obtain ⟨N, nd⟩ := LD
  ((rename List.Nodup _ => nd9; have e1 := ownOff_of nd9; have e2 := nodup_rest nd9; have e3 := nodup_own nd9; simp only [List.map_cons, List.map_nil] at e1 e3; obtain ⟨_, _, _, _, _, _⟩ := ne4 e3; clear e3))
  simp only [List.cons_append, List.nil_append] at N
  revert X₀; k_fill; intro X₀
  refine' def_C (binds := [(Str.ofString "self", .ref x)]) B F X₀ N T hA hf hke ?k6 ?k7 ?k8 ?k9 ?kB ?_ ?c2 ?c3 ?c4 ?c5
  (( (case k6 => k_is); (case k7 => k_is); (case k8 => walk_at "om"); (case k9 => first | exact BindsTo.of_eq rfl | exact binds_K (by k_in) rfl (by k_is) rfl rfl rfl | fail "enter: no rule for these arguments"); (case c5 => decide); (case kB => exact locs rfl); (case c2 => exact rfl); (case c3 => exact rfl); (case c4 => exact rfl)))
  intro g' L' h' FG' F' N' B' X' T' l1
  clear F N FG'
  (repeat' (first | (k_unfold; (try dsimp only)) | (first | (with_reducible first | ((show (_ : Flow → Shared → Prop) _ _); rename Flow → Shared → Prop => K9; rename KR K9 _ => kr9; rename KN K9 _ => kn9; (first | refine kn9 _ ?_ | refine kr9.ret _ _ ?_ | refine kr9.brk _ ?_ | refine kr9.cont _ ?_); clear kn9 kr9 K9; (try dsimp only)) | ((show (_ : Flow → Shared → Prop) _ _); (first | refine kn_go (by assumption) ?_ | refine kr_go (by assumption) ?_); (try dsimp only)) | ((show (_ : Bool → Shared → Prop) _ _); rename Bool → Shared → Prop => K9; rename KT K9 _ => kb9; refine kb9 _ _ ?_; clear kb9 K9; (try dsimp only)))) | ((with_reducible show wpC _ _ _ _ _ _); (first | (((with_reducible show wpC _ _ (call (Value.builtin "bytearray.append") _ _) _ _ _); (refine' ba_append ?zqk1 ?zqk2 ?zqk3 ?zqk4 ?zqk5 ?zqk6 ?_; (case zqk1 => k_asm); (case zqk2 => k_asm); (case zqk3 => k_upd); (case zqk4 => walk_at "om"); (case zqk5 => walk_at "om"); (case zqk6 => walk_at "szs")); intro _ _ _; (try k_sweep))) | (((with_reducible show wpC _ _ (call (Value.builtin "bytearray.extend") _ _) _ _ _); (refine' ba_extend_ba ?zqk1 ?zqk2 ?zqk3 ?zqk4 ?zqk5 ?_; (case zqk1 => k_asm); (case zqk2 => k_asm); (case zqk4 => k_mem); (case zqk3 => k_upd); (case zqk5 => walk_at "szs")); intro _ _ _; (try k_sweep))) | (((with_reducible show wpC _ _ (call (Value.type "bytearray") _ _) _ _ _); (refine' call_ba ?zqk1 ?zqk2 ?_; (case zqk1 => k_asm); (case zqk2 => k_asm)); intro _ _ _ _ l1; (try k_lt l1); (try k_sweep))) | (((with_reducible show wpC _ _ (execs (_ :: _) _) _ _ _); refine execs_cons_G ?_; intro _ _ _)) | (((with_reducible show wpC _ _ (execs [] _) _ _ _); refine execs_nil_C ?_)) | (((with_reducible show wpC _ _ (exec (Stmt.If _ _ _ _) _) _ _ _); refine exec_If_G ?_; intro _ _)) | (((with_reducible show wpC _ _ (exec (Stmt.Expr _ _) _) _ _ _); refine exec_Expr_C ?_)) | (((with_reducible show wpC _ _ (exec (Stmt.Assign [Expr.Attribute _ _ _] (Expr.Call _ _ _ _) _) _) _ _ _); refine exec_AssignAttr_C ?_)) | (((with_reducible show wpC _ _ (eval (Expr.Call (Expr.Name _ _) _ _ _) _) _ _ _); refine eval_CallName_C ?_)) | (((with_reducible show wpC _ _ (eval (Expr.Call (Expr.Attribute _ _ _) _ _ _) _) _ _ _); refine eval_CallMeth_C ?_)) | (((with_reducible show wpC _ _ (callWith _ (Value.builtin _) _ _ _) _ _ _); refine callWith_CB ?_)) | (((with_reducible show wpC _ _ (callWith _ (Value.type _) _ _ _) _ _ _); first | refine callWith_CT0 ?_ | refine callWith_CT (wpC_any ?_))))) | (dsimp only; (with_reducible show wpC _ _ _ _ _ _)) | ((fail_if_success (with_reducible show wpC _ _ _ _ _ _)); (first | walk1 | (dsimp only; walk1)))))
  all_goals walk_at "ands"
  · refine' ret .none _ _ [(x, _), (dx, _), (o, _), (_, _)] ?a ?b ?c ⟨rfl, ?d⟩
    case a => k_asm
    case b => refine' pick4 ?n; (case n => k_asm)
    case c => (first | assumption | (refine nodup_join ?zqna ?zqnb ?zqnc; (case zqna => (simp only [List.map_cons, List.map_nil]; first | (simp only [List.nodup_cons, List.not_mem_nil, not_false_eq_true, List.nodup_nil, and_self]; done) | (refine nd2 ?_ <;> k_ne) | (refine nd3 ?_ ?_ ?_ <;> k_ne) | (refine nd4 ?_ ?_ ?_ ?_ ?_ ?_ <;> k_ne))); (case zqnb => (simp only [List.map_cons, List.map_nil]; walk_at "off")); (case zqnc => assumption)) | fail "nodup")
    case d => rw [cpOut, if_pos (by lia)]; exact encAt_of
  · refine' ret .none _ _ [(x, _), (dx, _), (o, _), (p, _)] ?a ?b ?c ⟨rfl, ?d⟩
    case a => k_asm
    case b => (first | k_asm | (refine' drop1 ?zqn9; (case zqn9 => k_asm)) | (refine' drop2 ?zqn9; (case zqn9 => k_asm)) | (refine' drop3 ?zqn9; (case zqn9 => k_asm)) | (refine' drop4 ?zqn9; (case zqn9 => k_asm)))
    case c => (first | assumption | (refine nodup_join ?zqna ?zqnb ?zqnc; (case zqna => (simp only [List.map_cons, List.map_nil]; first | (simp only [List.nodup_cons, List.not_mem_nil, not_false_eq_true, List.nodup_nil, and_self]; done) | (refine nd2 ?_ <;> k_ne) | (refine nd3 ?_ ?_ ?_ <;> k_ne) | (refine nd4 ?_ ?_ ?_ ?_ ?_ ?_ <;> k_ne))); (case zqnb => (simp only [List.map_cons, List.map_nil]; walk_at "off")); (case zqnc => assumption)) | fail "nodup")
    case d => rw [cpOut, if_neg (by lia)]; obtain rfl : plain = #[] := Array.eq_empty_of_size_eq_zero (by lia); exact encAt_of
theorem enc_close_plainT (w : World) {x dx o p : Addr} {k1 k2 k3 k4 k5 k6 k7 k8 t2 t4 t5 t7 t8 : Tok} {dn : Bool} {lf out plain : Array UInt8} {rc tk sm mn : Int} (hp : plain.size ≤ 128) (hz : out.size + 1000 ≤ 16777216) :
    Ctr w 1 172 [.ref x] [(x, instObj 189 dx), (dx, encL w.params k1 k2 k3 k4 k5 k6 k7 k8 t2 t4 t5 t7 t8 dn lf o rc tk p sm mn), (o, baObj out), (p, baObj plain)]
      (fun v l' => v = .none ∧ EncAt w.params x dn lf rc ⟨cpOut out plain, tk, #[], sm, mn⟩ l') :=
  enc_close_plain w (zt := ⟨k1, k2, k3, k4, k5, k6, k7, k8, t2, t4, t5, t7, t8⟩) hp hz
theorem enc_close_run (w : World) {x dx o p : Addr} {zt : ETok} {dn : Bool} {lf out plain : Array UInt8} {rc tk sm mn : Int} (hp : plain.size ≤ 128) (hz : out.size + 2000 ≤ 16777216)
    (hs0 : 0 ≤ sm) (hs1 : sm < 256) (hm0 : 0 ≤ mn) (hm1 : mn ≤ 128) :
    Ctr w 2 165 [.ref x] [(x, instObj 189 dx), (dx, encD w.params zt dn lf o rc tk p sm mn), (o, baObj out), (p, baObj plain)]
      (fun v l' => v = .none ∧ EncAt w.params x dn lf rc ⟨crOut out plain sm mn, tk, crPlain plain sm mn, sm, 0⟩ l') := by
  intro A A₀ base h₀ outer L m mg mb env pg loose mean rest s R B F X₀ LD T hA hf hke hh hd hu ret
  obtain ⟨N, nd⟩ := LD
  ((rename List.Nodup _ => nd9; have e1 := ownOff_of nd9; have e2 := nodup_rest nd9; have e3 := nodup_own nd9; simp only [List.map_cons, List.map_nil] at e1 e3; obtain ⟨_, _, _, _, _, _⟩ := ne4 e3; clear e3))
  simp only [List.cons_append, List.nil_append] at N
  revert X₀; k_fill; intro X₀
  refine' def_C (binds := [(Str.ofString "self", .ref x)]) B F X₀ N T hA hf hke ?k6 ?k7 ?k8 ?k9 ?kB ?_ ?c2 ?c3 ?c4 ?c5
  (( (case k6 => k_is); (case k7 => k_is); (case k8 => walk_at "om"); (case k9 => first | exact BindsTo.of_eq rfl | exact binds_K (by k_in) rfl (by k_is) rfl rfl rfl | fail "enter: no rule for these arguments"); (case c5 => decide); (case kB => exact locs rfl); (case c2 => exact rfl); (case c3 => exact rfl); (case c4 => exact rfl)))
  intro g' L' h' FG' F' N' B' X' T' l1
  clear F N FG'
  have z9 := cpOut_size out plain
  (repeat' (first | (k_unfold; (try dsimp only)) | (first | (with_reducible first | ((show (_ : Flow → Shared → Prop) _ _); rename Flow → Shared → Prop => K9; rename KR K9 _ => kr9; rename KN K9 _ => kn9; (first | refine kn9 _ ?_ | refine kr9.ret _ _ ?_ | refine kr9.brk _ ?_ | refine kr9.cont _ ?_); clear kn9 kr9 K9; (try dsimp only)) | ((show (_ : Flow → Shared → Prop) _ _); (first | refine kn_go (by assumption) ?_ | refine kr_go (by assumption) ?_); (try dsimp only)) | ((show (_ : Bool → Shared → Prop) _ _); rename Bool → Shared → Prop => K9; rename KT K9 _ => kb9; refine kb9 _ _ ?_; clear kb9 K9; (try dsimp only)))) | ((with_reducible show wpC _ _ _ _ _ _); (first | ((with_reducible show wpC _ _ (call (Value.ref 172) _ _) _ _ _); (try dsimp only); (refine' use_encN (enc_close_plainT _ ?zqh1 ?zqh2) ?zqF ?zqN ?zqnd ?zqB ?zqX ?zqT ?zqA ?zqf ?zqk ?zqh ?zqd ?zqu ?_; (((case zqF => k_asm); (case zqN => (first | k_asm | (refine' drop1 ?zqn9; (case zqn9 => k_asm)) | (refine' drop2 ?zqn9; (case zqn9 => k_asm)) | (refine' drop3 ?zqn9; (case zqn9 => k_asm)) | (refine' drop4 ?zqn9; (case zqn9 => k_asm)))); (case zqnd => (first | assumption | (refine nodup_join ?zqna ?zqnb ?zqnc; (case zqna => (simp only [List.map_cons, List.map_nil]; first | (simp only [List.nodup_cons, List.not_mem_nil, not_false_eq_true, List.nodup_nil, and_self]; done) | (refine nd2 ?_ <;> k_ne) | (refine nd3 ?_ ?_ ?_ <;> k_ne) | (refine nd4 ?_ ?_ ?_ ?_ ?_ ?_ <;> k_ne))); (case zqnb => (simp only [List.map_cons, List.map_nil]; walk_at "off")); (case zqnc => assumption)) | fail "nodup")); (case zqB => k_asm); (case zqX => k_asm); (case zqT => k_asm); (case zqA => k_asm); (case zqf => exact rfl); (case zqk => exact rfl); (case zqh => assumption); (case zqd => (first | exact room2 (by assumption) (by decide) | exact room3 (by assumption) (by decide) | walk_at "om")); (case zqu => (first | exact room2 (by assumption) (by decide) | exact room3 (by assumption) (by decide) | walk_at "om")))); (case zqh1 => walk_at "om"); (case zqh2 => walk_at "szs")); intro _ _ _ _ _ _ _ _ _ _ _ _ _ _ _ _ _; (try k_sweep); dsimp only) | (((with_reducible show wpC _ _ (call (Value.builtin "bytearray.extend") _ _) _ _ _); (refine' ba_extend ?zqhh ?zqk1 ?zqk2 ?zqk3 ?zqk4 ?zqk5 ?zqk6 ?zqk7 ?_; (case zqhh => assumption); (case zqk1 => k_asm); (case zqk2 => k_asm); (case zqk4 => first | is_list | exact News.isList (by k_asm) (by k_mem)); (case zqk5 => first | l_ints | assumption); (case zqk3 => k_upd); (case zqk6 => walk_at "rng"); (case zqk7 => walk_at "szs")); intro _ _ _ _; (try k_sweep))) | (((with_reducible show wpC _ _ (execs (_ :: _) _) _ _ _); refine execs_cons_G ?_; intro _ _ _)) | (((with_reducible show wpC _ _ (execs [] _) _ _ _); refine execs_nil_C ?_)) | (((with_reducible show wpC _ _ (exec (Stmt.If _ _ _ _) _) _ _ _); refine exec_If_G ?_; intro _ _)) | (((with_reducible show wpC _ _ (exec (Stmt.Expr _ _) _) _ _ _); refine exec_Expr_C ?_)) | (((with_reducible show wpC _ _ (exec _ _) _ _ _); refine wpC_any ?_)) | (((with_reducible show wpC _ _ (eval (Expr.Call (Expr.Attribute _ _ _) _ _ _) _) _ _ _); refine eval_CallMeth_C ?_)) | (((with_reducible show wpC _ _ (callWith _ (Value.builtin _) _ _ _) _ _ _); refine callWith_CB ?_)) | (((with_reducible show wpC _ _ (callWith _ (Value.ref _) _ _ _) _ _ _); first | (refine' callWith_CK0 ?zqk1 ?zqk2 ?_; (case zqk1 => k_in); (case zqk2 => k_is)) | (refine' callWith_CK ?zqk1 ?zqk2 ?_; (case zqk1 => k_asm); (case zqk2 => k_is)))))) | (dsimp only; (with_reducible show wpC _ _ _ _ _ _)) | ((fail_if_success (with_reducible show wpC _ _ _ _ _ _)); (first | walk1 | (dsimp only; walk1)))))
  all_goals walk_at "ands"
  all_goals (refine' ret .none _ _ [(x, _), (_, _), (_, _), (_, _)] ?a ?b ?c ⟨rfl, ?d⟩; (case a => k_asm); (case b => (first | k_asm | (refine' drop1 ?zqn9; (case zqn9 => k_asm)) | (refine' drop2 ?zqn9; (case zqn9 => k_asm)) | (refine' drop3 ?zqn9; (case zqn9 => k_asm)) | (refine' drop4 ?zqn9; (case zqn9 => k_asm)))); (case c => (first | assumption | (refine nodup_join ?zqna ?zqnb ?zqnc; (case zqna => (simp only [List.map_cons, List.map_nil]; first | (simp only [List.nodup_cons, List.not_mem_nil, not_false_eq_true, List.nodup_nil, and_self]; done) | (refine nd2 ?_ <;> k_ne) | (refine nd3 ?_ ?_ ?_ <;> k_ne) | (refine nd4 ?_ ?_ ?_ ?_ ?_ ?_ <;> k_ne))); (case zqnb => (simp only [List.map_cons, List.map_nil]; walk_at "off")); (case zqnc => assumption)) | fail "nodup")); (case d => (simp (disch := walk_at "om") only [crOut, crPlain, if_pos, if_neg]; (try simp only [List.flatten_replicate_singleton]); exact encAt_of)))
theorem enc_close_runT (w : World) {x dx o p : Addr} {k1 k2 k3 k4 k5 k6 k7 k8 t2 t4 t5 t7 t8 : Tok} {dn : Bool} {lf out plain : Array UInt8} {rc tk sm mn : Int} (hp : plain.size ≤ 128) (hz : out.size + 2000 ≤ 16777216)
    (hs0 : 0 ≤ sm) (hs1 : sm < 256) (hm0 : 0 ≤ mn) (hm1 : mn ≤ 128) :
    Ctr w 2 165 [.ref x] [(x, instObj 189 dx), (dx, encL w.params k1 k2 k3 k4 k5 k6 k7 k8 t2 t4 t5 t7 t8 dn lf o rc tk p sm mn), (o, baObj out), (p, baObj plain)]
      (fun v l' => v = .none ∧ EncAt w.params x dn lf rc ⟨crOut out plain sm mn, tk, crPlain plain sm mn, sm, 0⟩ l') :=
  enc_close_run w (zt := ⟨k1, k2, k3, k4, k5, k6, k7, k8, t2, t4, t5, t7, t8⟩) hp hz hs0 hs1 hm0 hm1
end
section
theorem begins_D3 : True := by
  w_top off
  exact trivial
theorem enc_close_all (w : World) {x dx o p : Addr} {zt : ETok} {dn : Bool} {lf out plain : Array UInt8} {rc tk sm mn : Int} (hp : plain.size ≤ 128)  (hz : out.size + 4000 ≤ 16777216) (hs0 : 0 ≤ sm) (hs1 : sm < 256) (hm0 : 0 ≤ mn) (hm1 : mn ≤ 128) :
    Ctr w 4 179 [.ref x] [(x, instObj 189 dx), (dx, encD w.params zt dn lf o rc tk p sm mn), (o, baObj out), (p, baObj plain)]
      (fun v l' => v = .none ∧ EncAt w.params x dn lf rc ⟨cpOut (crOut out plain sm mn) (crPlain plain sm mn), tk, #[], sm, 0⟩ l') := by
  intro A A₀ base h₀ outer L m mg mb env pg loose mean rest s R B F X₀ LD T hA hf hke hh hd hu ret
  obtain ⟨N, nd⟩ := LD
  ((rename List.Nodup _ => nd9; have e1 := ownOff_of nd9; have e2 := nodup_rest nd9; have e3 := nodup_own nd9; simp only [List.map_cons, List.map_nil] at e1 e3; obtain ⟨_, _, _, _, _, _⟩ := ne4 e3; clear e3))
  simp only [List.cons_append, List.nil_append] at N
  revert X₀; k_fill; intro X₀
  refine' def_C (binds := [(Str.ofString "self", .ref x)]) B F X₀ N T hA hf hke ?k6 ?k7 ?k8 ?k9 ?kB ?_ ?c2 ?c3 ?c4 ?c5
  (( (case k6 => k_is); (case k7 => k_is); (case k8 => walk_at "om"); (case k9 => first | exact BindsTo.of_eq rfl | exact binds_K (by k_in) rfl (by k_is) rfl rfl rfl | fail "enter: no rule for these arguments"); (case c5 => decide); (case kB => exact locs rfl); (case c2 => exact rfl); (case c3 => exact rfl); (case c4 => exact rfl)))
  intro g' L' h' FG' F' N' B' X' T' l1
  clear F N FG'
  have z8 := crOut_size (out := out) (plain := plain) (sm := sm) (mn := mn)
  have z7 := crPlain_size (sm := sm) hm0 hp
  (repeat' (first | (k_unfold; (try dsimp only)) | (first | (with_reducible first | ((show (_ : Flow → Shared → Prop) _ _); rename Flow → Shared → Prop => K9; rename KR K9 _ => kr9; rename KN K9 _ => kn9; (first | refine kn9 _ ?_ | refine kr9.ret _ _ ?_ | refine kr9.brk _ ?_ | refine kr9.cont _ ?_); clear kn9 kr9 K9; (try dsimp only)) | ((show (_ : Flow → Shared → Prop) _ _); (first | refine kn_go (by assumption) ?_ | refine kr_go (by assumption) ?_); (try dsimp only)) | ((show (_ : Bool → Shared → Prop) _ _); rename Bool → Shared → Prop => K9; rename KT K9 _ => kb9; refine kb9 _ _ ?_; clear kb9 K9; (try dsimp only)))) | ((with_reducible show wpC _ _ _ _ _ _); (first | ((with_reducible show wpC _ _ (call (Value.ref 165) _ _) _ _ _); (try dsimp only); (refine' use_encN (enc_close_runT _ ?zqh1 ?zqh2 ?zqh3 ?zqh4 ?zqh5 ?zqh6) ?zqF ?zqN ?zqnd ?zqB ?zqX ?zqT ?zqA ?zqf ?zqk ?zqh ?zqd ?zqu ?_; (((case zqF => k_asm); (case zqN => (first | k_asm | (refine' drop1 ?zqn9; (case zqn9 => k_asm)) | (refine' drop2 ?zqn9; (case zqn9 => k_asm)) | (refine' drop3 ?zqn9; (case zqn9 => k_asm)) | (refine' drop4 ?zqn9; (case zqn9 => k_asm)))); (case zqnd => (first | assumption | (refine nodup_join ?zqna ?zqnb ?zqnc; (case zqna => (simp only [List.map_cons, List.map_nil]; first | (simp only [List.nodup_cons, List.not_mem_nil, not_false_eq_true, List.nodup_nil, and_self]; done) | (refine nd2 ?_ <;> k_ne) | (refine nd3 ?_ ?_ ?_ <;> k_ne) | (refine nd4 ?_ ?_ ?_ ?_ ?_ ?_ <;> k_ne))); (case zqnb => (simp only [List.map_cons, List.map_nil]; walk_at "off")); (case zqnc => assumption)) | fail "nodup")); (case zqB => k_asm); (case zqX => k_asm); (case zqT => k_asm); (case zqA => k_asm); (case zqf => exact rfl); (case zqk => exact rfl); (case zqh => assumption); (case zqd => (first | exact room2 (by assumption) (by decide) | exact room3 (by assumption) (by decide) | walk_at "om")); (case zqu => (first | exact room2 (by assumption) (by decide) | exact room3 (by assumption) (by decide) | walk_at "om")))); (case zqh1 => walk_at "om"); (case zqh2 => walk_at "szs"); (case zqh3 => walk_at "om"); (case zqh4 => walk_at "om"); (case zqh5 => walk_at "om"); (case zqh6 => walk_at "om")); intro _ _ _ _ _ _ _ _ _ _ _ _ _ _ _ _ _; (try k_sweep); dsimp only) | ((with_reducible show wpC _ _ (call (Value.ref 172) _ _) _ _ _); (try dsimp only); (refine' use_encN (enc_close_plainT _ ?zqh1 ?zqh2) ?zqF ?zqN ?zqnd ?zqB ?zqX ?zqT ?zqA ?zqf ?zqk ?zqh ?zqd ?zqu ?_; (((case zqF => k_asm); (case zqN => (first | k_asm | (refine' drop1 ?zqn9; (case zqn9 => k_asm)) | (refine' drop2 ?zqn9; (case zqn9 => k_asm)) | (refine' drop3 ?zqn9; (case zqn9 => k_asm)) | (refine' drop4 ?zqn9; (case zqn9 => k_asm)))); (case zqnd => (first | assumption | (refine nodup_join ?zqna ?zqnb ?zqnc; (case zqna => (simp only [List.map_cons, List.map_nil]; first | (simp only [List.nodup_cons, List.not_mem_nil, not_false_eq_true, List.nodup_nil, and_self]; done) | (refine nd2 ?_ <;> k_ne) | (refine nd3 ?_ ?_ ?_ <;> k_ne) | (refine nd4 ?_ ?_ ?_ ?_ ?_ ?_ <;> k_ne))); (case zqnb => (simp only [List.map_cons, List.map_nil]; walk_at "off")); (case zqnc => assumption)) | fail "nodup")); (case zqB => k_asm); (case zqX => k_asm); (case zqT => k_asm); (case zqA => k_asm); (case zqf => exact rfl); (case zqk => exact rfl); (case zqh => assumption); (case zqd => (first | exact room2 (by assumption) (by decide) | exact room3 (by assumption) (by decide) | walk_at "om")); (case zqu => (first | exact room2 (by assumption) (by decide) | exact room3 (by assumption) (by decide) | walk_at "om")))); (case zqh1 => walk_at "om"); (case zqh2 => walk_at "szs")); intro _ _ _ _ _ _ _ _ _ _ _ _ _ _ _ _ _; (try k_sweep); dsimp only) | (((with_reducible show wpC _ _ (execs (_ :: _) _) _ _ _); refine execs_cons_G ?_; intro _ _ _)) | (((with_reducible show wpC _ _ (execs [] _) _ _ _); refine execs_nil_C ?_)) | (((with_reducible show wpC _ _ (exec (Stmt.Expr _ _) _) _ _ _); refine exec_Expr_C ?_)) | (((with_reducible show wpC _ _ (eval (Expr.Call (Expr.Attribute _ _ _) _ _ _) _) _ _ _); refine eval_CallMeth_C ?_)) | (((with_reducible show wpC _ _ (callWith _ (Value.ref _) _ _ _) _ _ _); first | (refine' callWith_CK0 ?zqk1 ?zqk2 ?_; (case zqk1 => k_in); (case zqk2 => k_is)) | (refine' callWith_CK ?zqk1 ?zqk2 ?_; (case zqk1 => k_asm); (case zqk2 => k_is)))))) | (dsimp only; (with_reducible show wpC _ _ _ _ _ _)) | ((fail_if_success (with_reducible show wpC _ _ _ _ _ _)); (first | walk1 | (dsimp only; walk1)))))
  all_goals (refine' ret .none _ _ [(x, _), (_, _), (_, _), (_, _)] ?a ?b ?c ⟨rfl, ?d⟩; (case a => k_asm); (case b => (first | k_asm | (refine' drop1 ?zqn9; (case zqn9 => k_asm)) | (refine' drop2 ?zqn9; (case zqn9 => k_asm)) | (refine' drop3 ?zqn9; (case zqn9 => k_asm)) | (refine' drop4 ?zqn9; (case zqn9 => k_asm)))); (case c => (first | assumption | (refine nodup_join ?zqna ?zqnb ?zqnc; (case zqna => (simp only [List.map_cons, List.map_nil]; first | (simp only [List.nodup_cons, List.not_mem_nil, not_false_eq_true, List.nodup_nil, and_self]; done) | (refine nd2 ?_ <;> k_ne) | (refine nd3 ?_ ?_ ?_ <;> k_ne) | (refine nd4 ?_ ?_ ?_ ?_ ?_ ?_ <;> k_ne))); (case zqnb => (simp only [List.map_cons, List.map_nil]; walk_at "off")); (case zqnc => assumption)) | fail "nodup")); (case d => (exact encAt_of)))
theorem enc_close_allT (w : World) {x dx o p : Addr} {k1 k2 k3 k4 k5 k6 k7 k8 t2 t4 t5 t7 t8 : Tok} {dn : Bool} {lf out plain : Array UInt8} {rc tk sm mn : Int} (hp : plain.size ≤ 128)  (hz : out.size + 4000 ≤ 16777216) (hs0 : 0 ≤ sm) (hs1 : sm < 256) (hm0 : 0 ≤ mn) (hm1 : mn ≤ 128) :
    Ctr w 4 179 [.ref x] [(x, instObj 189 dx), (dx, encL w.params k1 k2 k3 k4 k5 k6 k7 k8 t2 t4 t5 t7 t8 dn lf o rc tk p sm mn), (o, baObj out), (p, baObj plain)]
      (fun v l' => v = .none ∧ EncAt w.params x dn lf rc ⟨cpOut (crOut out plain sm mn) (crPlain plain sm mn), tk, #[], sm, 0⟩ l') :=
  enc_close_all w (zt := ⟨k1, k2, k3, k4, k5, k6, k7, k8, t2, t4, t5, t7, t8⟩) hp hz hs0 hs1 hm0 hm1
end
section
theorem begins_D4 : True := by
  w_top off
  exact trivial
abbrev Enc.turn (st0 : Enc) (n : Int) : Enc := if st0.many = 128 ∨ (0 < st0.many ∧ n ≠ st0.same) then st0.closeRun else st0
theorem turn_ok {out plain : Array UInt8} {tk sm mn n : Int} {st : Enc} (hst : st = Enc.turn ⟨out, tk, plain, sm, mn⟩ n) (hp : plain.size ≤ 128) (hm0 : 0 ≤ mn) (hm1 : mn ≤ 128) :
    st.out.size ≤ out.size + 131 ∧ st.plain.size ≤ 128 ∧ 0 ≤ st.many ∧ st.many ≤ 127 := by
  subst hst
  unfold Enc.turn
  split
  · have z8 := crOut_size (out := out) (plain := plain) (sm := sm) (mn := mn)
    exact ⟨Nat.le_trans z8 (by lia), crPlain_size hm0 hp, Int.le_refl _, show (0 : Int) ≤ 127 by decide⟩
  · refine ⟨Nat.le_add_right _ _, hp, hm0, ?_⟩
    rename_i h
    dsimp only at h ⊢
    lia
theorem take_of {rc n : Int} {st0 st : Enc} (h : st = Enc.turn st0 n) : Enc.take rc st0 n =
    if st.taken + 1 = rc then { (Enc.closeAll { st with same := n, many := st.many + 1, taken := st.taken + 1 }) with taken := 0 } else { st with same := n, many := st.many + 1, taken := st.taken + 1 } := by
  subst h; rfl
theorem enc_take (w : World) {x dx o p : Addr} {zt : ETok} {dn : Bool} {lf out plain : Array UInt8} {rc tk sm mn : Int} (hp : plain.size ≤ 128)  (hz : out.size + 8000 ≤ 16777216) (hs0 : 0 ≤ sm) (hs1 : sm < 256) (hm0 : 0 ≤ mn) (hm1 : mn ≤ 128) {n : Int} {tb : Tok} (hn0 : 0 ≤ n) (hn1 : n < 256) :
    Ctr w 5 158 [.ref x, .int n tb] [(x, instObj 189 dx), (dx, encD w.params zt dn lf o rc tk p sm mn), (o, baObj out), (p, baObj plain)]
      (fun v l' => v = .none ∧ EncAt w.params x dn lf rc (Enc.take rc ⟨out, tk, plain, sm, mn⟩ n) l') := by
  intro A A₀ base h₀ outer L m mg mb env pg loose mean rest s R B F X₀ LD T hA hf hke hh hd hu ret
  obtain ⟨N, nd⟩ := LD
  ((rename List.Nodup _ => nd9; have e1 := ownOff_of nd9; have e2 := nodup_rest nd9; have e3 := nodup_own nd9; simp only [List.map_cons, List.map_nil] at e1 e3; obtain ⟨_, _, _, _, _, _⟩ := ne4 e3; clear e3))
  simp only [List.cons_append, List.nil_append] at N
  revert X₀; k_fill; intro X₀
  refine' def_C (binds := [(Str.ofString "self", .ref x), (Str.ofString "octet", .int n tb)]) B F X₀ N T hA hf hke ?k6 ?k7 ?k8 ?k9 ?kB ?_ ?c2 ?c3 ?c4 ?c5
  (( (case k6 => k_is); (case k7 => k_is); (case k8 => walk_at "om"); (case k9 => first | exact BindsTo.of_eq rfl | exact binds_K (by k_in) rfl (by k_is) rfl rfl rfl | fail "enter: no rule for these arguments"); (case c5 => decide); (case kB => exact locs rfl); (case c2 => exact rfl); (case c3 => exact rfl); (case c4 => exact rfl)))
  intro g' L' h' FG' F' N' B' X' T' l1
  clear F N FG'
  refine execs_cons_J (fun h => ∃ dx o p zt st, st = Enc.turn ⟨out, tk, plain, sm, mn⟩ n ∧ Fr g' L' h (fun y => List.lookup y [(Str.ofString "self", Value.ref x), (Str.ofString "octet", .int n tb)].reverse) ∧
    News g' L' h ((x, instObj 189 dx) :: (dx, encD w.params zt dn lf o rc st.taken p st.same st.many) :: (o, baObj st.out) :: (p, baObj st.plain) :: rest) ∧ (x :: dx :: o :: p :: rest.map (·.1)).Nodup) ?s1 ?s2
  case s1 =>
    intro K9 kn9 kr9
    refine exec_If_J (mn = 128 ∨ (0 < mn ∧ n ≠ sm)) ?t1 ?t2 ?t3
    case t1 =>
      intro J9 kj9
      (repeat' (first | (k_unfold; (try dsimp only)) | (first | (with_reducible first | ((show (_ : Flow → Shared → Prop) _ _); rename Flow → Shared → Prop => K9; rename KR K9 _ => kr9; rename KN K9 _ => kn9; (first | refine kn9 _ ?_ | refine kr9.ret _ _ ?_ | refine kr9.brk _ ?_ | refine kr9.cont _ ?_); clear kn9 kr9 K9; (try dsimp only)) | ((show (_ : Flow → Shared → Prop) _ _); (first | refine kn_go (by assumption) ?_ | refine kr_go (by assumption) ?_); (try dsimp only)) | ((show (_ : Bool → Shared → Prop) _ _); rename Bool → Shared → Prop => K9; rename KT K9 _ => kb9; refine kb9 _ _ ?_; clear kb9 K9; (try dsimp only)))) | ((with_reducible show wpC _ _ _ _ _ _); fail) | (dsimp only; (with_reducible show wpC _ _ _ _ _ _)) | ((fail_if_success (with_reducible show wpC _ _ _ _ _ _)); (first | walk1 | (dsimp only; walk1)))))
      · exact ⟨fun _ => .inl (by assumption), fun _ => rfl⟩
      · exact ⟨fun _ => .inr ⟨by assumption, by assumption⟩, fun _ => rfl⟩
      all_goals exact ⟨nofun, fun h => by walk_at "om"⟩
    case t2 =>
      intro tk9 hc
      (repeat' (first | (k_unfold; (try dsimp only)) | (first | (with_reducible first | ((show (_ : Flow → Shared → Prop) _ _); rename Flow → Shared → Prop => K9; rename KR K9 _ => kr9; rename KN K9 _ => kn9; (first | refine kn9 _ ?_ | refine kr9.ret _ _ ?_ | refine kr9.brk _ ?_ | refine kr9.cont _ ?_); clear kn9 kr9 K9; (try dsimp only)) | ((show (_ : Flow → Shared → Prop) _ _); (first | refine kn_go (by assumption) ?_ | refine kr_go (by assumption) ?_); (try dsimp only)) | ((show (_ : Bool → Shared → Prop) _ _); rename Bool → Shared → Prop => K9; rename KT K9 _ => kb9; refine kb9 _ _ ?_; clear kb9 K9; (try dsimp only)))) | ((with_reducible show wpC _ _ _ _ _ _); (first | ((with_reducible show wpC _ _ (call (Value.ref 165) _ _) _ _ _); (try dsimp only); (refine' use_encN (enc_close_runT _ ?zqh1 ?zqh2 ?zqh3 ?zqh4 ?zqh5 ?zqh6) ?zqF ?zqN ?zqnd ?zqB ?zqX ?zqT ?zqA ?zqf ?zqk ?zqh ?zqd ?zqu ?_; (((case zqF => k_asm); (case zqN => (first | k_asm | (refine' drop1 ?zqn9; (case zqn9 => k_asm)) | (refine' drop2 ?zqn9; (case zqn9 => k_asm)) | (refine' drop3 ?zqn9; (case zqn9 => k_asm)) | (refine' drop4 ?zqn9; (case zqn9 => k_asm)))); (case zqnd => (first | assumption | (refine nodup_join ?zqna ?zqnb ?zqnc; (case zqna => (simp only [List.map_cons, List.map_nil]; first | (simp only [List.nodup_cons, List.not_mem_nil, not_false_eq_true, List.nodup_nil, and_self]; done) | (refine nd2 ?_ <;> k_ne) | (refine nd3 ?_ ?_ ?_ <;> k_ne) | (refine nd4 ?_ ?_ ?_ ?_ ?_ ?_ <;> k_ne))); (case zqnb => (simp only [List.map_cons, List.map_nil]; walk_at "off")); (case zqnc => assumption)) | fail "nodup")); (case zqB => k_asm); (case zqX => k_asm); (case zqT => k_asm); (case zqA => k_asm); (case zqf => exact rfl); (case zqk => exact rfl); (case zqh => assumption); (case zqd => (first | exact room2 (by assumption) (by decide) | exact room3 (by assumption) (by decide) | walk_at "om")); (case zqu => (first | exact room2 (by assumption) (by decide) | exact room3 (by assumption) (by decide) | walk_at "om")))); (case zqh1 => walk_at "om"); (case zqh2 => walk_at "szs"); (case zqh3 => walk_at "om"); (case zqh4 => walk_at "om"); (case zqh5 => walk_at "om"); (case zqh6 => walk_at "om")); intro _ _ _ _ _ _ _ _ _ _ _ _ _ _ _ _ _; (try k_sweep); dsimp only) | (((with_reducible show wpC _ _ (execs (_ :: _) _) _ _ _); refine execs_cons_G ?_; intro _ _ _)) | (((with_reducible show wpC _ _ (execs [] _) _ _ _); refine execs_nil_C ?_)) | (((with_reducible show wpC _ _ (exec (Stmt.Expr _ _) _) _ _ _); refine exec_Expr_C ?_)) | (((with_reducible show wpC _ _ (eval (Expr.Call (Expr.Attribute _ _ _) _ _ _) _) _ _ _); refine eval_CallMeth_C ?_)) | (((with_reducible show wpC _ _ (callWith _ (Value.ref _) _ _ _) _ _ _); first | (refine' callWith_CK0 ?zqk1 ?zqk2 ?_; (case zqk1 => k_in); (case zqk2 => k_is)) | (refine' callWith_CK ?zqk1 ?zqk2 ?_; (case zqk1 => k_asm); (case zqk2 => k_is)))))) | (dsimp only; (with_reducible show wpC _ _ _ _ _ _)) | ((fail_if_success (with_reducible show wpC _ _ _ _ _ _)); (first | walk1 | (dsimp only; walk1)))))
      rename News _ _ _ _ => N9
      exact ⟨_, _, rfl, _, _, _, _, _, (if_pos hc).symm, by k_asm, N9, by assumption⟩
    case t3 =>
      intro tk9 hc
      (repeat' (first | (k_unfold; (try dsimp only)) | (first | (with_reducible first | ((show (_ : Flow → Shared → Prop) _ _); rename Flow → Shared → Prop => K9; rename KR K9 _ => kr9; rename KN K9 _ => kn9; (first | refine kn9 _ ?_ | refine kr9.ret _ _ ?_ | refine kr9.brk _ ?_ | refine kr9.cont _ ?_); clear kn9 kr9 K9; (try dsimp only)) | ((show (_ : Flow → Shared → Prop) _ _); (first | refine kn_go (by assumption) ?_ | refine kr_go (by assumption) ?_); (try dsimp only)) | ((show (_ : Bool → Shared → Prop) _ _); rename Bool → Shared → Prop => K9; rename KT K9 _ => kb9; refine kb9 _ _ ?_; clear kb9 K9; (try dsimp only)))) | ((with_reducible show wpC _ _ _ _ _ _); (first | (((with_reducible show wpC _ _ (execs [] _) _ _ _); refine execs_nil_C ?_)))) | (dsimp only; (with_reducible show wpC _ _ _ _ _ _)) | ((fail_if_success (with_reducible show wpC _ _ _ _ _ _)); (first | walk1 | (dsimp only; walk1)))))
      rename News _ _ _ _ => N9
      exact ⟨_, _, rfl, _, _, _, _, _, (if_neg hc).symm, by k_asm, N9, by assumption⟩
  case s2 =>
    clear F' N'
    rintro h7 tk7 ⟨dx, o, p, zt, st, hst, F7, N7, nd7⟩
    obtain ⟨z1, z2, z3, z4⟩ := turn_ok hst hp hm0 hm1
    obtain ⟨_, _, _, _, _, _, _, _⟩ := apart_e nd7
    rw [take_of hst] at ret
    clear hst hm0 hm1 hp
    obtain ⟨out', tk', plain', sm', mn'⟩ := st
    dsimp only at *
    (repeat' (first | (k_unfold; (try dsimp only)) | (first | (with_reducible first | ((show (_ : Flow → Shared → Prop) _ _); rename Flow → Shared → Prop => K9; rename KR K9 _ => kr9; rename KN K9 _ => kn9; (first | refine kn9 _ ?_ | refine kr9.ret _ _ ?_ | refine kr9.brk _ ?_ | refine kr9.cont _ ?_); clear kn9 kr9 K9; (try dsimp only)) | ((show (_ : Flow → Shared → Prop) _ _); (first | refine kn_go (by assumption) ?_ | refine kr_go (by assumption) ?_); (try dsimp only)) | ((show (_ : Bool → Shared → Prop) _ _); rename Bool → Shared → Prop => K9; rename KT K9 _ => kb9; refine kb9 _ _ ?_; clear kb9 K9; (try dsimp only)))) | ((with_reducible show wpC _ _ _ _ _ _); (first | ((with_reducible show wpC _ _ (call (Value.ref 179) _ _) _ _ _); (try dsimp only); (refine' use_encN (enc_close_allT _ ?zqh1 ?zqh2 ?zqh3 ?zqh4 ?zqh5 ?zqh6) ?zqF ?zqN ?zqnd ?zqB ?zqX ?zqT ?zqA ?zqf ?zqk ?zqh ?zqd ?zqu ?_; (((case zqF => k_asm); (case zqN => (first | k_asm | (refine' drop1 ?zqn9; (case zqn9 => k_asm)) | (refine' drop2 ?zqn9; (case zqn9 => k_asm)) | (refine' drop3 ?zqn9; (case zqn9 => k_asm)) | (refine' drop4 ?zqn9; (case zqn9 => k_asm)))); (case zqnd => (first | assumption | (refine nodup_join ?zqna ?zqnb ?zqnc; (case zqna => (simp only [List.map_cons, List.map_nil]; first | (simp only [List.nodup_cons, List.not_mem_nil, not_false_eq_true, List.nodup_nil, and_self]; done) | (refine nd2 ?_ <;> k_ne) | (refine nd3 ?_ ?_ ?_ <;> k_ne) | (refine nd4 ?_ ?_ ?_ ?_ ?_ ?_ <;> k_ne))); (case zqnb => (simp only [List.map_cons, List.map_nil]; walk_at "off")); (case zqnc => assumption)) | fail "nodup")); (case zqB => k_asm); (case zqX => k_asm); (case zqT => k_asm); (case zqA => k_asm); (case zqf => exact rfl); (case zqk => exact rfl); (case zqh => assumption); (case zqd => (first | exact room2 (by assumption) (by decide) | exact room3 (by assumption) (by decide) | walk_at "om")); (case zqu => (first | exact room2 (by assumption) (by decide) | exact room3 (by assumption) (by decide) | walk_at "om")))); (case zqh1 => walk_at "om"); (case zqh2 => walk_at "szs"); (case zqh3 => walk_at "om"); (case zqh4 => walk_at "om"); (case zqh5 => walk_at "om"); (case zqh6 => walk_at "om")); intro _ _ _ _ _ _ _ _ _ _ _ _ _ _ _ _ _; (try k_sweep); dsimp only) | (((with_reducible show wpC _ _ (execs (_ :: _) _) _ _ _); refine execs_cons_G ?_; intro _ _ _)) | (((with_reducible show wpC _ _ (execs [] _) _ _ _); refine execs_nil_C ?_)) | (((with_reducible show wpC _ _ (exec (Stmt.If _ _ _ _) _) _ _ _); refine exec_If_G ?_; intro _ _)) | (((with_reducible show wpC _ _ (exec (Stmt.Expr _ _) _) _ _ _); refine exec_Expr_C ?_)) | (((with_reducible show wpC _ _ (exec _ _) _ _ _); refine wpC_any ?_)) | (((with_reducible show wpC _ _ (eval (Expr.Call (Expr.Attribute _ _ _) _ _ _) _) _ _ _); refine eval_CallMeth_C ?_)) | (((with_reducible show wpC _ _ (callWith _ (Value.ref _) _ _ _) _ _ _); first | (refine' callWith_CK0 ?zqk1 ?zqk2 ?_; (case zqk1 => k_in); (case zqk2 => k_is)) | (refine' callWith_CK ?zqk1 ?zqk2 ?_; (case zqk1 => k_asm); (case zqk2 => k_is)))))) | (dsimp only; (with_reducible show wpC _ _ _ _ _ _)) | ((fail_if_success (with_reducible show wpC _ _ _ _ _ _)); (first | walk1 | (dsimp only; walk1)))))
    all_goals (refine' ret .none _ _ [(x, _), (_, _), (_, _), (_, _)] ?a ?b ?c ⟨rfl, ?d⟩; (case a => k_asm); (case b => (first | k_asm | (refine' drop1 ?zqn9; (case zqn9 => k_asm)) | (refine' drop2 ?zqn9; (case zqn9 => k_asm)) | (refine' drop3 ?zqn9; (case zqn9 => k_asm)) | (refine' drop4 ?zqn9; (case zqn9 => k_asm)))); (case c => (first | assumption | (refine nodup_join ?zqna ?zqnb ?zqnc; (case zqna => (simp only [List.map_cons, List.map_nil]; first | (simp only [List.nodup_cons, List.not_mem_nil, not_false_eq_true, List.nodup_nil, and_self]; done) | (refine nd2 ?_ <;> k_ne) | (refine nd3 ?_ ?_ ?_ <;> k_ne) | (refine nd4 ?_ ?_ ?_ ?_ ?_ ?_ <;> k_ne))); (case zqnb => (simp only [List.map_cons, List.map_nil]; walk_at "off")); (case zqnc => assumption)) | fail "nodup")); (case d => first | (rw [if_pos (by assumption)]; exact encAt_of) | (rw [if_neg (by assumption)]; exact encAt_of)))
theorem enc_takeT (w : World) {x dx o p : Addr} {k1 k2 k3 k4 k5 k6 k7 k8 t2 t4 t5 t7 t8 : Tok} {dn : Bool} {lf out plain : Array UInt8} {rc tk sm mn : Int} (hp : plain.size ≤ 128)  (hz : out.size + 8000 ≤ 16777216) (hs0 : 0 ≤ sm) (hs1 : sm < 256) (hm0 : 0 ≤ mn) (hm1 : mn ≤ 128) {n : Int} {tb : Tok} (hn0 : 0 ≤ n) (hn1 : n < 256) :
    Ctr w 5 158 [.ref x, .int n tb] [(x, instObj 189 dx), (dx, encL w.params k1 k2 k3 k4 k5 k6 k7 k8 t2 t4 t5 t7 t8 dn lf o rc tk p sm mn), (o, baObj out), (p, baObj plain)]
      (fun v l' => v = .none ∧ EncAt w.params x dn lf rc (Enc.take rc ⟨out, tk, plain, sm, mn⟩ n) l') :=
  enc_take w (zt := ⟨k1, k2, k3, k4, k5, k6, k7, k8, t2, t4, t5, t7, t8⟩) hp hz hs0 hs1 hm0 hm1 hn0 hn1
end
section
theorem begins_D5 : True := by
  w_top off
  exact trivial
theorem pick2 {h₀ h : Heap} {L : Addr} {q x dx : Addr × Obj} {l : List (Addr × Obj)} (N : News h₀ L h (q :: x :: dx :: l)) : News h₀ L h (x :: dx :: q :: l) := by
  intro y hy
  simp only [List.mem_cons] at hy
  refine N y ?_
  simp only [List.mem_cons]
  rcases hy with h | h | h | h <;> simp only [h, true_or, or_true]
theorem pick3o {h₀ h : Heap} {L : Addr} {q x dx o p : Addr × Obj} {l : List (Addr × Obj)} (N : News h₀ L h (q :: x :: dx :: o :: p :: l)) : News h₀ L h (x :: dx :: q :: p :: l) := by
  intro y hy
  simp only [List.mem_cons] at hy
  refine N y ?_
  simp only [List.mem_cons]
  rcases hy with h | h | h | h | h <;> simp only [h, true_or, or_true]
abbrev begD (P : Params) (k1 k2 k3 t2 : Tok) (o : Addr) : Obj :=
  dictOf [⟨PyData.keyHash P (Str.ofString "is_done"), .str (Str.ofString "is_done") k1, .bool false⟩, ⟨PyData.keyHash P (Str.ofString "left"), .str (Str.ofString "left") k2, .bytes #[] t2⟩,
    ⟨PyData.keyHash P (Str.ofString "out"), .str (Str.ofString "out") k3, .ref o⟩] 3
theorem dec_begin (w : World) {x dx : Addr} :
    Ctr w 2 61 [.ref x] [(x, instObj 134 dx), (dx, dictOf [] 0)] (fun v l' => v = .none ∧ ∃ o k1 k2 k3 t2, l' = [(x, instObj 134 dx), (dx, begD w.params k1 k2 k3 t2 o), (o, baObj #[])]) := by
  intro A A₀ base h₀ outer L m mg mb env pg loose mean rest s R B F X₀ LD T hA hf hke hh hd hu ret
  obtain ⟨N, nd⟩ := LD
  ((rename List.Nodup _ => nd9; have e1 := ownOff_of nd9; have e2 := nodup_rest nd9; have e3 := nodup_own nd9; simp only [List.map_cons, List.map_nil] at e1 e3; have e4 := ne2 e3; clear e3))
  simp only [List.cons_append, List.nil_append] at N
  revert X₀; k_fill; intro X₀
  refine' def_C (binds := [(Str.ofString "self", .ref x)]) B F X₀ N T hA hf hke ?k6 ?k7 ?k8 ?k9 ?kB ?_ ?c2 ?c3 ?c4 ?c5
  (( (case k6 => k_is); (case k7 => k_is); (case k8 => walk_at "om"); (case k9 => first | exact BindsTo.of_eq rfl | exact binds_K (by k_in) rfl (by k_is) rfl rfl rfl | fail "enter: no rule for these arguments"); (case c5 => decide); (case kB => exact locs rfl); (case c2 => exact rfl); (case c3 => exact rfl); (case c4 => exact rfl)))
  intro g' L' h' FG' F' N' B' X' T' l1
  clear F N FG'
  (repeat' (first | (k_unfold; (try dsimp only)) | (first | (with_reducible first | ((show (_ : Flow → Shared → Prop) _ _); rename Flow → Shared → Prop => K9; rename KR K9 _ => kr9; rename KN K9 _ => kn9; (first | refine kn9 _ ?_ | refine kr9.ret _ _ ?_ | refine kr9.brk _ ?_ | refine kr9.cont _ ?_); clear kn9 kr9 K9; (try dsimp only)) | ((show (_ : Flow → Shared → Prop) _ _); (first | refine kn_go (by assumption) ?_ | refine kr_go (by assumption) ?_); (try dsimp only)) | ((show (_ : Bool → Shared → Prop) _ _); rename Bool → Shared → Prop => K9; rename KT K9 _ => kb9; refine kb9 _ _ ?_; clear kb9 K9; (try dsimp only)))) | ((with_reducible show wpC _ _ _ _ _ _); (first | (((with_reducible show wpC _ _ (call (Value.type "bytearray") _ _) _ _ _); (refine' call_ba ?zqk1 ?zqk2 ?_; (case zqk1 => k_asm); (case zqk2 => k_asm)); intro _ _ _ _ l1; (try k_lt l1); (try k_sweep))) | (((with_reducible show wpC _ _ (execs (_ :: _) _) _ _ _); refine execs_cons_G ?_; intro _ _ _)) | (((with_reducible show wpC _ _ (execs [] _) _ _ _); refine execs_nil_C ?_)) | (((with_reducible show wpC _ _ (exec (Stmt.Assign [Expr.Attribute _ _ _] (Expr.Call _ _ _ _) _) _) _ _ _); refine exec_AssignAttr_C ?_)) | (((with_reducible show wpC _ _ (exec _ _) _ _ _); refine wpC_any ?_)) | (((with_reducible show wpC _ _ (eval (Expr.Call (Expr.Name _ _) _ _ _) _) _ _ _); refine eval_CallName_C ?_)) | (((with_reducible show wpC _ _ (callWith _ (Value.type _) _ _ _) _ _ _); first | refine callWith_CT0 ?_ | refine callWith_CT (wpC_any ?_))))) | (dsimp only; (with_reducible show wpC _ _ _ _ _ _)) | ((fail_if_success (with_reducible show wpC _ _ _ _ _ _)); (first | walk1 | (dsimp only; walk1)))))
  all_goals walk_at "ands"
  all_goals (refine' ret .none _ _ [(x, _), (dx, _), (_, _)] ?a ?b ?c ⟨rfl, ?d⟩; (case a => k_asm); (case b => refine' pick2 ?n; (case n => k_asm)); (case c => (first | assumption | (refine nodup_join ?zqna ?zqnb ?zqnc; (case zqna => (simp only [List.map_cons, List.map_nil]; first | (simp only [List.nodup_cons, List.not_mem_nil, not_false_eq_true, List.nodup_nil, and_self]; done) | (refine nd2 ?_ <;> k_ne) | (refine nd3 ?_ ?_ ?_ <;> k_ne) | (refine nd4 ?_ ?_ ?_ ?_ ?_ ?_ <;> k_ne))); (case zqnb => (simp only [List.map_cons, List.map_nil]; walk_at "off")); (case zqnc => assumption)) | fail "nodup")); (case d => exact ⟨_, _, _, _, _, rfl⟩))
theorem enc_begin (w : World) {x dx : Addr} :
    Ctr w 2 61 [.ref x] [(x, instObj 189 dx), (dx, dictOf [] 0)] (fun v l' => v = .none ∧ ∃ o k1 k2 k3 t2, l' = [(x, instObj 189 dx), (dx, begD w.params k1 k2 k3 t2 o), (o, baObj #[])]) := by
  intro A A₀ base h₀ outer L m mg mb env pg loose mean rest s R B F X₀ LD T hA hf hke hh hd hu ret
  obtain ⟨N, nd⟩ := LD
  ((rename List.Nodup _ => nd9; have e1 := ownOff_of nd9; have e2 := nodup_rest nd9; have e3 := nodup_own nd9; simp only [List.map_cons, List.map_nil] at e1 e3; have e4 := ne2 e3; clear e3))
  simp only [List.cons_append, List.nil_append] at N
  revert X₀; k_fill; intro X₀
  refine' def_C (binds := [(Str.ofString "self", .ref x)]) B F X₀ N T hA hf hke ?k6 ?k7 ?k8 ?k9 ?kB ?_ ?c2 ?c3 ?c4 ?c5
  (( (case k6 => k_is); (case k7 => k_is); (case k8 => walk_at "om"); (case k9 => first | exact BindsTo.of_eq rfl | exact binds_K (by k_in) rfl (by k_is) rfl rfl rfl | fail "enter: no rule for these arguments"); (case c5 => decide); (case kB => exact locs rfl); (case c2 => exact rfl); (case c3 => exact rfl); (case c4 => exact rfl)))
  intro g' L' h' FG' F' N' B' X' T' l1
  clear F N FG'
  (repeat' (first | (k_unfold; (try dsimp only)) | (first | (with_reducible first | ((show (_ : Flow → Shared → Prop) _ _); rename Flow → Shared → Prop => K9; rename KR K9 _ => kr9; rename KN K9 _ => kn9; (first | refine kn9 _ ?_ | refine kr9.ret _ _ ?_ | refine kr9.brk _ ?_ | refine kr9.cont _ ?_); clear kn9 kr9 K9; (try dsimp only)) | ((show (_ : Flow → Shared → Prop) _ _); (first | refine kn_go (by assumption) ?_ | refine kr_go (by assumption) ?_); (try dsimp only)) | ((show (_ : Bool → Shared → Prop) _ _); rename Bool → Shared → Prop => K9; rename KT K9 _ => kb9; refine kb9 _ _ ?_; clear kb9 K9; (try dsimp only)))) | ((with_reducible show wpC _ _ _ _ _ _); (first | (((with_reducible show wpC _ _ (call (Value.type "bytearray") _ _) _ _ _); (refine' call_ba ?zqk1 ?zqk2 ?_; (case zqk1 => k_asm); (case zqk2 => k_asm)); intro _ _ _ _ l1; (try k_lt l1); (try k_sweep))) | (((with_reducible show wpC _ _ (execs (_ :: _) _) _ _ _); refine execs_cons_G ?_; intro _ _ _)) | (((with_reducible show wpC _ _ (execs [] _) _ _ _); refine execs_nil_C ?_)) | (((with_reducible show wpC _ _ (exec (Stmt.Assign [Expr.Attribute _ _ _] (Expr.Call _ _ _ _) _) _) _ _ _); refine exec_AssignAttr_C ?_)) | (((with_reducible show wpC _ _ (exec _ _) _ _ _); refine wpC_any ?_)) | (((with_reducible show wpC _ _ (eval (Expr.Call (Expr.Name _ _) _ _ _) _) _ _ _); refine eval_CallName_C ?_)) | (((with_reducible show wpC _ _ (callWith _ (Value.type _) _ _ _) _ _ _); first | refine callWith_CT0 ?_ | refine callWith_CT (wpC_any ?_))))) | (dsimp only; (with_reducible show wpC _ _ _ _ _ _)) | ((fail_if_success (with_reducible show wpC _ _ _ _ _ _)); (first | walk1 | (dsimp only; walk1)))))
  all_goals walk_at "ands"
  all_goals (refine' ret .none _ _ [(x, _), (dx, _), (_, _)] ?a ?b ?c ⟨rfl, ?d⟩; (case a => k_asm); (case b => refine' pick2 ?n; (case n => k_asm)); (case c => (first | assumption | (refine nodup_join ?zqna ?zqnb ?zqnc; (case zqna => (simp only [List.map_cons, List.map_nil]; first | (simp only [List.nodup_cons, List.not_mem_nil, not_false_eq_true, List.nodup_nil, and_self]; done) | (refine nd2 ?_ <;> k_ne) | (refine nd3 ?_ ?_ ?_ <;> k_ne) | (refine nd4 ?_ ?_ ?_ ?_ ?_ ?_ <;> k_ne))); (case zqnb => (simp only [List.map_cons, List.map_nil]; walk_at "off")); (case zqnc => assumption)) | fail "nodup")); (case d => exact ⟨_, _, _, _, _, rfl⟩))
theorem dec_told (w : World) {x dx o : Addr} {zt : DTok} {dn : Bool} {lf out : Array UInt8} {pl mn : Int} (hz : out.size < 16777216) :
    Ctr w 2 82 [.ref x] [(x, instObj 134 dx), (dx, decD w.params zt dn lf o pl mn), (o, baObj out)] (fun v l' => (∃ t, v = .bytes out t) ∧ DecAt w.params x ⟨dn, lf, #[], pl, mn⟩ l') := by
  intro A A₀ base h₀ outer L m mg mb env pg loose mean rest s R B F X₀ LD T hA hf hke hh hd hu ret
  obtain ⟨N, nd⟩ := LD
  ((rename List.Nodup _ => nd9; have e1 := ownOff_of nd9; have e2 := nodup_rest nd9; have e3 := nodup_own nd9; simp only [List.map_cons, List.map_nil] at e1 e3; obtain ⟨_, _, _⟩ := ne3 e3; clear e3))
  simp only [List.cons_append, List.nil_append] at N
  revert X₀; k_fill; intro X₀
  refine' def_C (binds := [(Str.ofString "self", .ref x)]) B F X₀ N T hA hf hke ?k6 ?k7 ?k8 ?k9 ?kB ?_ ?c2 ?c3 ?c4 ?c5
  (( (case k6 => k_is); (case k7 => k_is); (case k8 => walk_at "om"); (case k9 => first | exact BindsTo.of_eq rfl | exact binds_K (by k_in) rfl (by k_is) rfl rfl rfl | fail "enter: no rule for these arguments"); (case c5 => decide); (case kB => exact locs rfl); (case c2 => exact rfl); (case c3 => exact rfl); (case c4 => exact rfl)))
  intro g' L' h' FG' F' N' B' X' T' l1
  clear F N FG'
  (repeat' (first | (k_unfold; (try dsimp only)) | (first | (with_reducible first | ((show (_ : Flow → Shared → Prop) _ _); rename Flow → Shared → Prop => K9; rename KR K9 _ => kr9; rename KN K9 _ => kn9; (first | refine kn9 _ ?_ | refine kr9.ret _ _ ?_ | refine kr9.brk _ ?_ | refine kr9.cont _ ?_); clear kn9 kr9 K9; (try dsimp only)) | ((show (_ : Flow → Shared → Prop) _ _); (first | refine kn_go (by assumption) ?_ | refine kr_go (by assumption) ?_); (try dsimp only)) | ((show (_ : Bool → Shared → Prop) _ _); rename Bool → Shared → Prop => K9; rename KT K9 _ => kb9; refine kb9 _ _ ?_; clear kb9 K9; (try dsimp only)))) | ((with_reducible show wpC _ _ _ _ _ _); (first | (((with_reducible show wpC _ _ (call (Value.type "bytearray") _ _) _ _ _); (refine' call_ba ?zqk1 ?zqk2 ?_; (case zqk1 => k_asm); (case zqk2 => k_asm)); intro _ _ _ _ l1; (try k_lt l1); (try k_sweep))) | (((with_reducible show wpC _ _ (call (Value.type "bytes") [Value.ref _] _) _ _ _); (refine wpC_any (bytes_ba (News.get (by k_asm) (by k_mem)) (by walk_at "om") ?_)); intro _ _)) | (((with_reducible show wpC _ _ (execs (_ :: _) _) _ _ _); refine execs_cons_G ?_; intro _ _ _)) | (((with_reducible show wpC _ _ (exec (Stmt.Assign [Expr.Attribute _ _ _] (Expr.Call _ _ _ _) _) _) _ _ _); refine exec_AssignAttr_C ?_)) | (((with_reducible show wpC _ _ (exec (Stmt.Assign [Expr.Name _ _] (Expr.Call _ _ _ _) _) _) _ _ _); refine exec_AssignName_C ?_)) | (((with_reducible show wpC _ _ (exec _ _) _ _ _); refine wpC_any ?_)) | (((with_reducible show wpC _ _ (eval (Expr.Call (Expr.Name _ _) _ _ _) _) _ _ _); refine eval_CallName_C ?_)) | (((with_reducible show wpC _ _ (callWith _ (Value.type _) _ _ _) _ _ _); first | refine callWith_CT0 ?_ | refine callWith_CT (wpC_any ?_))))) | (dsimp only; (with_reducible show wpC _ _ _ _ _ _)) | ((fail_if_success (with_reducible show wpC _ _ _ _ _ _)); (first | walk1 | (dsimp only; walk1)))))
  all_goals walk_at "ands"
  all_goals (refine' ret (.bytes out _) _ _ [(x, _), (dx, _), (_, _)] ?a ?b ?c ⟨⟨_, rfl⟩, ?d⟩; (case a => k_asm); (case b => refine' pick3 ?n; (case n => k_asm)); (case c => (first | assumption | (refine nodup_join ?zqna ?zqnb ?zqnc; (case zqna => (simp only [List.map_cons, List.map_nil]; first | (simp only [List.nodup_cons, List.not_mem_nil, not_false_eq_true, List.nodup_nil, and_self]; done) | (refine nd2 ?_ <;> k_ne) | (refine nd3 ?_ ?_ ?_ <;> k_ne) | (refine nd4 ?_ ?_ ?_ ?_ ?_ ?_ <;> k_ne))); (case zqnb => (simp only [List.map_cons, List.map_nil]; walk_at "off")); (case zqnc => assumption)) | fail "nodup")); (case d => exact decAt_of))
theorem dec_toldT (w : World) {x dx o : Addr} {k1 k2 k3 k4 k5 t2 t4 t5 : Tok} {dn : Bool} {lf out : Array UInt8} {pl mn : Int} (hz : out.size < 16777216) :
    Ctr w 2 82 [.ref x] [(x, instObj 134 dx), (dx, decL w.params k1 k2 k3 k4 k5 t2 t4 t5 dn lf o pl mn), (o, baObj out)] (fun v l' => (∃ t, v = .bytes out t) ∧ DecAt w.params x ⟨dn, lf, #[], pl, mn⟩ l') :=
  dec_told w (zt := ⟨k1, k2, k3, k4, k5, t2, t4, t5⟩) hz
theorem enc_told (w : World) {x dx o p : Addr} {zt : ETok} {dn : Bool} {lf out plain : Array UInt8} {rc tk sm mn : Int} (hz : out.size < 16777216) :
    Ctr w 2 82 [.ref x] [(x, instObj 189 dx), (dx, encD w.params zt dn lf o rc tk p sm mn), (o, baObj out), (p, baObj plain)] (fun v l' => (∃ t, v = .bytes out t) ∧ EncAt w.params x dn lf rc ⟨#[], tk, plain, sm, mn⟩ l') := by
  intro A A₀ base h₀ outer L m mg mb env pg loose mean rest s R B F X₀ LD T hA hf hke hh hd hu ret
  obtain ⟨N, nd⟩ := LD
  ((rename List.Nodup _ => nd9; have e1 := ownOff_of nd9; have e2 := nodup_rest nd9; have e3 := nodup_own nd9; simp only [List.map_cons, List.map_nil] at e1 e3; obtain ⟨_, _, _, _, _, _⟩ := ne4 e3; clear e3))
  simp only [List.cons_append, List.nil_append] at N
  revert X₀; k_fill; intro X₀
  refine' def_C (binds := [(Str.ofString "self", .ref x)]) B F X₀ N T hA hf hke ?k6 ?k7 ?k8 ?k9 ?kB ?_ ?c2 ?c3 ?c4 ?c5
  (( (case k6 => k_is); (case k7 => k_is); (case k8 => walk_at "om"); (case k9 => first | exact BindsTo.of_eq rfl | exact binds_K (by k_in) rfl (by k_is) rfl rfl rfl | fail "enter: no rule for these arguments"); (case c5 => decide); (case kB => exact locs rfl); (case c2 => exact rfl); (case c3 => exact rfl); (case c4 => exact rfl)))
  intro g' L' h' FG' F' N' B' X' T' l1
  clear F N FG'
  (repeat' (first | (k_unfold; (try dsimp only)) | (first | (with_reducible first | ((show (_ : Flow → Shared → Prop) _ _); rename Flow → Shared → Prop => K9; rename KR K9 _ => kr9; rename KN K9 _ => kn9; (first | refine kn9 _ ?_ | refine kr9.ret _ _ ?_ | refine kr9.brk _ ?_ | refine kr9.cont _ ?_); clear kn9 kr9 K9; (try dsimp only)) | ((show (_ : Flow → Shared → Prop) _ _); (first | refine kn_go (by assumption) ?_ | refine kr_go (by assumption) ?_); (try dsimp only)) | ((show (_ : Bool → Shared → Prop) _ _); rename Bool → Shared → Prop => K9; rename KT K9 _ => kb9; refine kb9 _ _ ?_; clear kb9 K9; (try dsimp only)))) | ((with_reducible show wpC _ _ _ _ _ _); (first | (((with_reducible show wpC _ _ (call (Value.type "bytearray") _ _) _ _ _); (refine' call_ba ?zqk1 ?zqk2 ?_; (case zqk1 => k_asm); (case zqk2 => k_asm)); intro _ _ _ _ l1; (try k_lt l1); (try k_sweep))) | (((with_reducible show wpC _ _ (call (Value.type "bytes") [Value.ref _] _) _ _ _); (refine wpC_any (bytes_ba (News.get (by k_asm) (by k_mem)) (by walk_at "om") ?_)); intro _ _)) | (((with_reducible show wpC _ _ (execs (_ :: _) _) _ _ _); refine execs_cons_G ?_; intro _ _ _)) | (((with_reducible show wpC _ _ (exec (Stmt.Assign [Expr.Attribute _ _ _] (Expr.Call _ _ _ _) _) _) _ _ _); refine exec_AssignAttr_C ?_)) | (((with_reducible show wpC _ _ (exec (Stmt.Assign [Expr.Name _ _] (Expr.Call _ _ _ _) _) _) _ _ _); refine exec_AssignName_C ?_)) | (((with_reducible show wpC _ _ (exec _ _) _ _ _); refine wpC_any ?_)) | (((with_reducible show wpC _ _ (eval (Expr.Call (Expr.Name _ _) _ _ _) _) _ _ _); refine eval_CallName_C ?_)) | (((with_reducible show wpC _ _ (callWith _ (Value.type _) _ _ _) _ _ _); first | refine callWith_CT0 ?_ | refine callWith_CT (wpC_any ?_))))) | (dsimp only; (with_reducible show wpC _ _ _ _ _ _)) | ((fail_if_success (with_reducible show wpC _ _ _ _ _ _)); (first | walk1 | (dsimp only; walk1)))))
  all_goals walk_at "ands"
  all_goals (refine' ret (.bytes out _) _ _ [(x, _), (dx, _), (_, _), (p, _)] ?a ?b ?c ⟨⟨_, rfl⟩, ?d⟩; (case a => k_asm); (case b => refine' pick3o ?n; (case n => k_asm)); (case c => (first | assumption | (refine nodup_join ?zqna ?zqnb ?zqnc; (case zqna => (simp only [List.map_cons, List.map_nil]; first | (simp only [List.nodup_cons, List.not_mem_nil, not_false_eq_true, List.nodup_nil, and_self]; done) | (refine nd2 ?_ <;> k_ne) | (refine nd3 ?_ ?_ ?_ <;> k_ne) | (refine nd4 ?_ ?_ ?_ ?_ ?_ ?_ <;> k_ne))); (case zqnb => (simp only [List.map_cons, List.map_nil]; walk_at "off")); (case zqnc => assumption)) | fail "nodup")); (case d => exact encAt_of))
theorem enc_toldT (w : World) {x dx o p : Addr} {k1 k2 k3 k4 k5 k6 k7 k8 t2 t4 t5 t7 t8 : Tok} {dn : Bool} {lf out plain : Array UInt8} {rc tk sm mn : Int} (hz : out.size < 16777216) :
    Ctr w 2 82 [.ref x] [(x, instObj 189 dx), (dx, encL w.params k1 k2 k3 k4 k5 k6 k7 k8 t2 t4 t5 t7 t8 dn lf o rc tk p sm mn), (o, baObj out), (p, baObj plain)] (fun v l' => (∃ t, v = .bytes out t) ∧ EncAt w.params x dn lf rc ⟨#[], tk, plain, sm, mn⟩ l') :=
  enc_told w (zt := ⟨k1, k2, k3, k4, k5, k6, k7, k8, t2, t4, t5, t7, t8⟩) hz
end
section
theorem begins_D6 : True := by
  w_top off
  exact trivial
theorem use_make {w : World} {k : Nat} {fI C : Addr} {rest' : List Value} {post : Addr → List (Addr × Obj) → Prop}
    (Ct : ∀ x dx, Ctr w k fI (.ref x :: rest') [(x, instObj C dx), (dx, dictOf [] 0)] (fun v l' => v = .none ∧ post x l'))
    {A A₀ : Around} {base h₀ : Heap} {outer : List Env} {L : Addr} {m mg mb : Str → Option Value} {env : Env} {p : Program} {loose : List Str} {mean : ExcName → Option Value} {rest : List (Addr × Obj)} {s : Shared} {Q E : Value → Shared → Prop}
    (F : Fr h₀ L s.heap m) (N : News h₀ L s.heap rest) (nd : (rest.map (·.1)).Nodup) (B : Below A₀ base outer h₀) (X : (Mine0.hd.heap_1 w.params).In h₀) (T : Top p loose mean mg mb h₀)
    (hA : A.frames = some outer) (hf : env.frame = some L) (hk : env.scope.kind = .function) (hh : A.handled = none) (hd : A.depth + 1 + 1 + k < recursionLimit) (hu : A.units + 3 + 1 + 8 * k < cLine)
    (hm : makesIn (Mine0.hd.heap_1 w.params) C = true) (hi : findIn (Mine0.hd.heap_1 w.params) (.ref C) "__init__" = some (some (.ref fI))) (hfn : isFn (Mine0.hd.heap_1 w.params) (.ref fI) = true)
    (h : ∀ x h' tk' l', Fr h₀ L h' m → News h₀ L h' (l' ++ rest) → ((l' ++ rest).map (·.1)).Nodup → post x l' → Q (.ref x) { s with heap := h', toks := tk' }) :
    wpC (model PySem.Challenge.rw_nt0489_01.row.prog w) (A.deeper env) (call (.ref C) rest') Q E s := by
  refine make_C F N X hm hi hfn (fun x dx h' F' N' l1 l2 => ?_)
  have e9 : ∀ p ∈ rest, p.1 ≠ dx := fun p hp => Nat.ne_of_lt (l1 p hp)
  have e8 : ∀ p ∈ rest, p.1 ≠ x := fun p hp => Nat.ne_of_lt (Nat.lt_trans (l1 p hp) l2)
  refine Ct x dx B F' X ⟨N', ?_⟩ T (by show A.frames.map _ = _; rw [hA]; rfl) hf hk hh (by show A.depth + 1 + 1 + k < _; exact hd) (by show A.units + 3 + 1 + 8 * k < _; exact hu) (fun v h₂ tk₂ l₂ F₂ N₂ nd₂ hp => ?_)
  · refine nodup_join ?_ ?_ nd
    · exact nd2 (Nat.ne_of_gt l2)
    · exact ownOff_cons e8 (ownOff_cons e9 ownOff_nil)
  · exact ⟨hp.1, h x h₂ tk₂ l₂ F₂ N₂ nd₂ hp.2⟩
theorem enc_end (w : World) {x dx o p : Addr} {zt : ETok} {dn : Bool} {lf out plain : Array UInt8} {rc tk sm mn : Int} (hp : plain.size ≤ 128) (hz : out.size + 4000 ≤ 16777216) (hs0 : 0 ≤ sm) (hs1 : sm < 256) (hm0 : 0 ≤ mn) (hm1 : mn ≤ 128) :
    Ctr w 5 186 [.ref x] [(x, instObj 189 dx), (dx, encD w.params zt dn lf o rc tk p sm mn), (o, baObj out), (p, baObj plain)] (fun v l' => v = .none ∧ EncAt w.params x dn lf rc ⟨(cpOut (crOut out plain sm mn) (crPlain plain sm mn)).push 128, tk, #[], sm, 0⟩ l') := by
  intro A A₀ base h₀ outer L m mg mb env pg loose mean rest s R B F X₀ LD T hA hf hke hh hd hu ret
  obtain ⟨N, nd⟩ := LD
  ((rename List.Nodup _ => nd9; have e1 := ownOff_of nd9; have e2 := nodup_rest nd9; have e3 := nodup_own nd9; simp only [List.map_cons, List.map_nil] at e1 e3; obtain ⟨_, _, _, _, _, _⟩ := ne4 e3; clear e3))
  simp only [List.cons_append, List.nil_append] at N
  revert X₀; k_fill; intro X₀
  refine' def_C (binds := [(Str.ofString "self", .ref x)]) B F X₀ N T hA hf hke ?k6 ?k7 ?k8 ?k9 ?kB ?_ ?c2 ?c3 ?c4 ?c5
  (( (case k6 => k_is); (case k7 => k_is); (case k8 => walk_at "om"); (case k9 => first | exact BindsTo.of_eq rfl | exact binds_K (by k_in) rfl (by k_is) rfl rfl rfl | fail "enter: no rule for these arguments"); (case c5 => decide); (case kB => exact locs rfl); (case c2 => exact rfl); (case c3 => exact rfl); (case c4 => exact rfl)))
  intro g' L' h' FG' F' N' B' X' T' l1
  clear F N FG'
  have z8 := crOut_size (out := out) (plain := plain) (sm := sm) (mn := mn)
  have z7 := crPlain_size (sm := sm) hm0 hp
  have z6 := cpOut_size (crOut out plain sm mn) (crPlain plain sm mn)
  (repeat' (first | (k_unfold; (try dsimp only)) | (first | (with_reducible first | ((show (_ : Flow → Shared → Prop) _ _); rename Flow → Shared → Prop => K9; rename KR K9 _ => kr9; rename KN K9 _ => kn9; (first | refine kn9 _ ?_ | refine kr9.ret _ _ ?_ | refine kr9.brk _ ?_ | refine kr9.cont _ ?_); clear kn9 kr9 K9; (try dsimp only)) | ((show (_ : Flow → Shared → Prop) _ _); (first | refine kn_go (by assumption) ?_ | refine kr_go (by assumption) ?_); (try dsimp only)) | ((show (_ : Bool → Shared → Prop) _ _); rename Bool → Shared → Prop => K9; rename KT K9 _ => kb9; refine kb9 _ _ ?_; clear kb9 K9; (try dsimp only)))) | ((with_reducible show wpC _ _ _ _ _ _); (first | ((with_reducible show wpC _ _ (call (Value.ref 179) _ _) _ _ _); (try dsimp only); (refine' use_encN (enc_close_allT _ ?zqh1 ?zqh2 ?zqh3 ?zqh4 ?zqh5 ?zqh6) ?zqF ?zqN ?zqnd ?zqB ?zqX ?zqT ?zqA ?zqf ?zqk ?zqh ?zqd ?zqu ?_; (((case zqF => k_asm); (case zqN => (first | k_asm | (refine' drop1 ?zqn9; (case zqn9 => k_asm)) | (refine' drop2 ?zqn9; (case zqn9 => k_asm)) | (refine' drop3 ?zqn9; (case zqn9 => k_asm)) | (refine' drop4 ?zqn9; (case zqn9 => k_asm)))); (case zqnd => (first | assumption | (refine nodup_join ?zqna ?zqnb ?zqnc; (case zqna => (simp only [List.map_cons, List.map_nil]; first | (simp only [List.nodup_cons, List.not_mem_nil, not_false_eq_true, List.nodup_nil, and_self]; done) | (refine nd2 ?_ <;> k_ne) | (refine nd3 ?_ ?_ ?_ <;> k_ne) | (refine nd4 ?_ ?_ ?_ ?_ ?_ ?_ <;> k_ne))); (case zqnb => (simp only [List.map_cons, List.map_nil]; walk_at "off")); (case zqnc => assumption)) | fail "nodup")); (case zqB => k_asm); (case zqX => k_asm); (case zqT => k_asm); (case zqA => k_asm); (case zqf => exact rfl); (case zqk => exact rfl); (case zqh => assumption); (case zqd => (first | exact room2 (by assumption) (by decide) | exact room3 (by assumption) (by decide) | walk_at "om")); (case zqu => (first | exact room2 (by assumption) (by decide) | exact room3 (by assumption) (by decide) | walk_at "om")))); (case zqh1 => walk_at "om"); (case zqh2 => walk_at "szs"); (case zqh3 => walk_at "om"); (case zqh4 => walk_at "om"); (case zqh5 => walk_at "om"); (case zqh6 => walk_at "om")); intro _ _ _ _ _ _ _ _ _ _ _ _ _ _ _ _ _; (try k_sweep); dsimp only) | (((with_reducible show wpC _ _ (call (Value.builtin "bytearray.append") _ _) _ _ _); (refine' ba_append ?zqk1 ?zqk2 ?zqk3 ?zqk4 ?zqk5 ?zqk6 ?_; (case zqk1 => k_asm); (case zqk2 => k_asm); (case zqk3 => k_upd); (case zqk4 => walk_at "om"); (case zqk5 => walk_at "om"); (case zqk6 => walk_at "szs")); intro _ _ _; (try k_sweep))) | (((with_reducible show wpC _ _ (execs (_ :: _) _) _ _ _); refine execs_cons_G ?_; intro _ _ _)) | (((with_reducible show wpC _ _ (execs [] _) _ _ _); refine execs_nil_C ?_)) | (((with_reducible show wpC _ _ (exec (Stmt.Expr _ _) _) _ _ _); refine exec_Expr_C ?_)) | (((with_reducible show wpC _ _ (eval (Expr.Call (Expr.Attribute _ _ _) _ _ _) _) _ _ _); refine eval_CallMeth_C ?_)) | (((with_reducible show wpC _ _ (callWith _ (Value.builtin _) _ _ _) _ _ _); refine callWith_CB ?_)) | (((with_reducible show wpC _ _ (callWith _ (Value.ref _) _ _ _) _ _ _); first | (refine' callWith_CK0 ?zqk1 ?zqk2 ?_; (case zqk1 => k_in); (case zqk2 => k_is)) | (refine' callWith_CK ?zqk1 ?zqk2 ?_; (case zqk1 => k_asm); (case zqk2 => k_is)))))) | (dsimp only; (with_reducible show wpC _ _ _ _ _ _)) | ((fail_if_success (with_reducible show wpC _ _ _ _ _ _)); (first | walk1 | (dsimp only; walk1)))))
  all_goals walk_at "ands"
  all_goals (refine' ret .none _ _ [(x, _), (_, _), (_, _), (_, _)] ?a ?b ?c ⟨rfl, ?d⟩; (case a => k_asm); (case b => (first | k_asm | (refine' drop1 ?zqn9; (case zqn9 => k_asm)) | (refine' drop2 ?zqn9; (case zqn9 => k_asm)) | (refine' drop3 ?zqn9; (case zqn9 => k_asm)) | (refine' drop4 ?zqn9; (case zqn9 => k_asm)))); (case c => (first | assumption | (refine nodup_join ?zqna ?zqnb ?zqnc; (case zqna => (simp only [List.map_cons, List.map_nil]; first | (simp only [List.nodup_cons, List.not_mem_nil, not_false_eq_true, List.nodup_nil, and_self]; done) | (refine nd2 ?_ <;> k_ne) | (refine nd3 ?_ ?_ ?_ <;> k_ne) | (refine nd4 ?_ ?_ ?_ ?_ ?_ ?_ <;> k_ne))); (case zqnb => (simp only [List.map_cons, List.map_nil]; walk_at "off")); (case zqnc => assumption)) | fail "nodup")); (case d => exact encAt_of))
theorem enc_endT (w : World) {x dx o p : Addr} {k1 k2 k3 k4 k5 k6 k7 k8 t2 t4 t5 t7 t8 : Tok} {dn : Bool} {lf out plain : Array UInt8} {rc tk sm mn : Int} (hp : plain.size ≤ 128) (hz : out.size + 4000 ≤ 16777216) (hs0 : 0 ≤ sm) (hs1 : sm < 256) (hm0 : 0 ≤ mn) (hm1 : mn ≤ 128) :
    Ctr w 5 186 [.ref x] [(x, instObj 189 dx), (dx, encL w.params k1 k2 k3 k4 k5 k6 k7 k8 t2 t4 t5 t7 t8 dn lf o rc tk p sm mn), (o, baObj out), (p, baObj plain)] (fun v l' => v = .none ∧ EncAt w.params x dn lf rc ⟨(cpOut (crOut out plain sm mn) (crPlain plain sm mn)).push 128, tk, #[], sm, 0⟩ l') :=
  enc_end w (zt := ⟨k1, k2, k3, k4, k5, k6, k7, k8, t2, t4, t5, t7, t8⟩) hp hz hs0 hs1 hm0 hm1
theorem enc_finish (w : World) {x dx o p : Addr} {zt : ETok} {dn : Bool} {lf out plain : Array UInt8} {rc tk sm mn : Int} (hdn : dn = false) (hp : plain.size ≤ 128) (hz : out.size + 4000 ≤ 16777216) (hs0 : 0 ≤ sm) (hs1 : sm < 256) (hm0 : 0 ≤ mn) (hm1 : mn ≤ 128) :
    Ctr w 6 75 [.ref x] [(x, instObj 189 dx), (dx, encD w.params zt dn lf o rc tk p sm mn), (o, baObj out), (p, baObj plain)] (fun v l' => (∃ t, v = .bytes ((cpOut (crOut out plain sm mn) (crPlain plain sm mn)).push 128) t) ∧ EncAt w.params x true lf rc ⟨#[], tk, #[], sm, 0⟩ l') := by
  intro A A₀ base h₀ outer L m mg mb env pg loose mean rest s R B F X₀ LD T hA hf hke hh hd hu ret
  obtain ⟨N, nd⟩ := LD
  ((rename List.Nodup _ => nd9; have e1 := ownOff_of nd9; have e2 := nodup_rest nd9; have e3 := nodup_own nd9; simp only [List.map_cons, List.map_nil] at e1 e3; obtain ⟨_, _, _, _, _, _⟩ := ne4 e3; clear e3))
  simp only [List.cons_append, List.nil_append] at N
  revert X₀; k_fill; intro X₀
  refine' def_C (binds := [(Str.ofString "self", .ref x)]) B F X₀ N T hA hf hke ?k6 ?k7 ?k8 ?k9 ?kB ?_ ?c2 ?c3 ?c4 ?c5
  (( (case k6 => k_is); (case k7 => k_is); (case k8 => walk_at "om"); (case k9 => first | exact BindsTo.of_eq rfl | exact binds_K (by k_in) rfl (by k_is) rfl rfl rfl | fail "enter: no rule for these arguments"); (case c5 => decide); (case kB => exact locs rfl); (case c2 => exact rfl); (case c3 => exact rfl); (case c4 => exact rfl)))
  intro g' L' h' FG' F' N' B' X' T' l1
  clear F N FG'
  subst hdn
  have z8 := crOut_size (out := out) (plain := plain) (sm := sm) (mn := mn)
  have z7 := crPlain_size (sm := sm) hm0 hp
  have z6 := cpOut_size (crOut out plain sm mn) (crPlain plain sm mn)
  (repeat' (first | (k_unfold; (try dsimp only)) | (first | (with_reducible first | ((show (_ : Flow → Shared → Prop) _ _); rename Flow → Shared → Prop => K9; rename KR K9 _ => kr9; rename KN K9 _ => kn9; (first | refine kn9 _ ?_ | refine kr9.ret _ _ ?_ | refine kr9.brk _ ?_ | refine kr9.cont _ ?_); clear kn9 kr9 K9; (try dsimp only)) | ((show (_ : Flow → Shared → Prop) _ _); (first | refine kn_go (by assumption) ?_ | refine kr_go (by assumption) ?_); (try dsimp only)) | ((show (_ : Bool → Shared → Prop) _ _); rename Bool → Shared → Prop => K9; rename KT K9 _ => kb9; refine kb9 _ _ ?_; clear kb9 K9; (try dsimp only)))) | ((with_reducible show wpC _ _ _ _ _ _); (first | ((with_reducible show wpC _ _ (call (Value.ref 186) _ _) _ _ _); (try dsimp only); (refine' use_encN (enc_endT _ ?zqh1 ?zqh2 ?zqh3 ?zqh4 ?zqh5 ?zqh6) ?zqF ?zqN ?zqnd ?zqB ?zqX ?zqT ?zqA ?zqf ?zqk ?zqh ?zqd ?zqu ?_; (((case zqF => k_asm); (case zqN => (first | k_asm | (refine' drop1 ?zqn9; (case zqn9 => k_asm)) | (refine' drop2 ?zqn9; (case zqn9 => k_asm)) | (refine' drop3 ?zqn9; (case zqn9 => k_asm)) | (refine' drop4 ?zqn9; (case zqn9 => k_asm)))); (case zqnd => (first | assumption | (refine nodup_join ?zqna ?zqnb ?zqnc; (case zqna => (simp only [List.map_cons, List.map_nil]; first | (simp only [List.nodup_cons, List.not_mem_nil, not_false_eq_true, List.nodup_nil, and_self]; done) | (refine nd2 ?_ <;> k_ne) | (refine nd3 ?_ ?_ ?_ <;> k_ne) | (refine nd4 ?_ ?_ ?_ ?_ ?_ ?_ <;> k_ne))); (case zqnb => (simp only [List.map_cons, List.map_nil]; walk_at "off")); (case zqnc => assumption)) | fail "nodup")); (case zqB => k_asm); (case zqX => k_asm); (case zqT => k_asm); (case zqA => k_asm); (case zqf => exact rfl); (case zqk => exact rfl); (case zqh => assumption); (case zqd => (first | exact room2 (by assumption) (by decide) | exact room3 (by assumption) (by decide) | walk_at "om")); (case zqu => (first | exact room2 (by assumption) (by decide) | exact room3 (by assumption) (by decide) | walk_at "om")))); (case zqh1 => walk_at "om"); (case zqh2 => walk_at "szs"); (case zqh3 => walk_at "om"); (case zqh4 => walk_at "om"); (case zqh5 => walk_at "om"); (case zqh6 => walk_at "om")); intro _ _ _ _ _ _ _ _ _ _ _ _ _ _ _ _ _; (try k_sweep); dsimp only) | ((with_reducible show wpC _ _ (call (Value.ref 82) _ _) _ _ _); (try dsimp only); (refine' use_encB (enc_toldT _ ?zqh2) ?zqF ?zqN ?zqnd ?zqB ?zqX ?zqT ?zqA ?zqf ?zqk ?zqh ?zqd ?zqu ?_; (((case zqF => k_asm); (case zqN => (first | k_asm | (refine' drop1 ?zqn9; (case zqn9 => k_asm)) | (refine' drop2 ?zqn9; (case zqn9 => k_asm)) | (refine' drop3 ?zqn9; (case zqn9 => k_asm)) | (refine' drop4 ?zqn9; (case zqn9 => k_asm)))); (case zqnd => (first | assumption | (refine nodup_join ?zqna ?zqnb ?zqnc; (case zqna => (simp only [List.map_cons, List.map_nil]; first | (simp only [List.nodup_cons, List.not_mem_nil, not_false_eq_true, List.nodup_nil, and_self]; done) | (refine nd2 ?_ <;> k_ne) | (refine nd3 ?_ ?_ ?_ <;> k_ne) | (refine nd4 ?_ ?_ ?_ ?_ ?_ ?_ <;> k_ne))); (case zqnb => (simp only [List.map_cons, List.map_nil]; walk_at "off")); (case zqnc => assumption)) | fail "nodup")); (case zqB => k_asm); (case zqX => k_asm); (case zqT => k_asm); (case zqA => k_asm); (case zqf => exact rfl); (case zqk => exact rfl); (case zqh => assumption); (case zqd => (first | exact room2 (by assumption) (by decide) | exact room3 (by assumption) (by decide) | walk_at "om")); (case zqu => (first | exact room2 (by assumption) (by decide) | exact room3 (by assumption) (by decide) | walk_at "om")))); (case zqh2 => walk_at "szs")); intro _ _ _ _ _ _ _ _ _ _ _ _ _ _ _ _ _ _; (try k_sweep); dsimp only) | (((with_reducible show wpC _ _ (execs (_ :: _) _) _ _ _); refine execs_cons_G ?_; intro _ _ _)) | (((with_reducible show wpC _ _ (execs [] _) _ _ _); refine execs_nil_C ?_)) | (((with_reducible show wpC _ _ (exec (Stmt.If _ _ _ _) _) _ _ _); refine exec_If_G ?_; intro _ _)) | (((with_reducible show wpC _ _ (exec (Stmt.Expr _ _) _) _ _ _); refine exec_Expr_C ?_)) | (((with_reducible show wpC _ _ (exec (Stmt.Return (some (Expr.Call _ _ _ _)) _) _) _ _ _); refine exec_Return_C ?_)) | (((with_reducible show wpC _ _ (exec _ _) _ _ _); refine wpC_any ?_)) | (((with_reducible show wpC _ _ (eval (Expr.Call (Expr.Attribute _ _ _) _ _ _) _) _ _ _); refine eval_CallMeth_C ?_)) | (((with_reducible show wpC _ _ (callWith _ (Value.ref _) _ _ _) _ _ _); first | (refine' callWith_CK0 ?zqk1 ?zqk2 ?_; (case zqk1 => k_in); (case zqk2 => k_is)) | (refine' callWith_CK ?zqk1 ?zqk2 ?_; (case zqk1 => k_asm); (case zqk2 => k_is)))))) | (dsimp only; (with_reducible show wpC _ _ _ _ _ _)) | ((fail_if_success (with_reducible show wpC _ _ _ _ _ _)); (first | walk1 | (dsimp only; walk1)))))
  all_goals walk_at "ands"
  all_goals (refine' ret (.bytes _ _) _ _ [(x, _), (_, _), (_, _), (_, _)] ?a ?b ?c ⟨⟨_, rfl⟩, ?d⟩; (case a => k_asm); (case b => (first | k_asm | (refine' drop1 ?zqn9; (case zqn9 => k_asm)) | (refine' drop2 ?zqn9; (case zqn9 => k_asm)) | (refine' drop3 ?zqn9; (case zqn9 => k_asm)) | (refine' drop4 ?zqn9; (case zqn9 => k_asm)))); (case c => (first | assumption | (refine nodup_join ?zqna ?zqnb ?zqnc; (case zqna => (simp only [List.map_cons, List.map_nil]; first | (simp only [List.nodup_cons, List.not_mem_nil, not_false_eq_true, List.nodup_nil, and_self]; done) | (refine nd2 ?_ <;> k_ne) | (refine nd3 ?_ ?_ ?_ <;> k_ne) | (refine nd4 ?_ ?_ ?_ ?_ ?_ ?_ <;> k_ne))); (case zqnb => (simp only [List.map_cons, List.map_nil]; walk_at "off")); (case zqnc => assumption)) | fail "nodup")); (case d => exact encAt_of))
theorem enc_finishT (w : World) {x dx o p : Addr} {k1 k2 k3 k4 k5 k6 k7 k8 t2 t4 t5 t7 t8 : Tok} {dn : Bool} {lf out plain : Array UInt8} {rc tk sm mn : Int} (hdn : dn = false) (hp : plain.size ≤ 128) (hz : out.size + 4000 ≤ 16777216) (hs0 : 0 ≤ sm) (hs1 : sm < 256) (hm0 : 0 ≤ mn) (hm1 : mn ≤ 128) :
    Ctr w 6 75 [.ref x] [(x, instObj 189 dx), (dx, encL w.params k1 k2 k3 k4 k5 k6 k7 k8 t2 t4 t5 t7 t8 dn lf o rc tk p sm mn), (o, baObj out), (p, baObj plain)] (fun v l' => (∃ t, v = .bytes ((cpOut (crOut out plain sm mn) (crPlain plain sm mn)).push 128) t) ∧ EncAt w.params x true lf rc ⟨#[], tk, #[], sm, 0⟩ l') :=
  enc_finish w (zt := ⟨k1, k2, k3, k4, k5, k6, k7, k8, t2, t4, t5, t7, t8⟩) hdn hp hz hs0 hs1 hm0 hm1
end
section
theorem begins_D7 : True := by
  w_top off
  exact trivial
theorem pick3q {h₀ h : Heap} {L : Addr} {q x dx o : Addr × Obj} {l : List (Addr × Obj)} (N : News h₀ L h (q :: x :: dx :: o :: l)) : News h₀ L h (x :: dx :: o :: q :: l) := by
  intro y hy
  simp only [List.mem_cons] at hy
  refine N y ?_
  simp only [List.mem_cons]
  rcases hy with h | h | h | h | h <;> simp only [h, true_or, or_true]
theorem dec_init (w : World) {x dx : Addr} :
    Ctr w 3 117 [.ref x] [(x, instObj 134 dx), (dx, dictOf [] 0)] (fun v l' => v = .none ∧ DecAt w.params x ⟨false, #[], #[], 0, 0⟩ l') := by
  intro A A₀ base h₀ outer L m mg mb env pg loose mean rest s R B F X₀ LD T hA hf hke hh hd hu ret
  obtain ⟨N, nd⟩ := LD
  ((rename List.Nodup _ => nd9; have e1 := ownOff_of nd9; have e2 := nodup_rest nd9; have e3 := nodup_own nd9; simp only [List.map_cons, List.map_nil] at e1 e3; have e4 := ne2 e3; clear e3))
  simp only [List.cons_append, List.nil_append] at N
  revert X₀; k_fill; intro X₀
  refine' def_C (binds := [(Str.ofString "self", .ref x)]) B F X₀ N T hA hf hke ?k6 ?k7 ?k8 ?k9 ?kB ?_ ?c2 ?c3 ?c4 ?c5
  (( (case k6 => k_is); (case k7 => k_is); (case k8 => walk_at "om"); (case k9 => first | exact BindsTo.of_eq rfl | exact binds_K (by k_in) rfl (by k_is) rfl rfl rfl | fail "enter: no rule for these arguments"); (case c5 => decide); (case kB => exact locs rfl); (case c2 => exact rfl); (case c3 => exact rfl); (case c4 => exact rfl)))
  intro g' L' h' FG' F' N' B' X' T' l1
  clear F N FG'
  (repeat' (first | (k_unfold; (try dsimp only)) | (first | (with_reducible first | ((show (_ : Flow → Shared → Prop) _ _); rename Flow → Shared → Prop => K9; rename KR K9 _ => kr9; rename KN K9 _ => kn9; (first | refine kn9 _ ?_ | refine kr9.ret _ _ ?_ | refine kr9.brk _ ?_ | refine kr9.cont _ ?_); clear kn9 kr9 K9; (try dsimp only)) | ((show (_ : Flow → Shared → Prop) _ _); (first | refine kn_go (by assumption) ?_ | refine kr_go (by assumption) ?_); (try dsimp only)) | ((show (_ : Bool → Shared → Prop) _ _); rename Bool → Shared → Prop => K9; rename KT K9 _ => kb9; refine kb9 _ _ ?_; clear kb9 K9; (try dsimp only)))) | ((with_reducible show wpC _ _ _ _ _ _); (first | ((with_reducible show wpC _ _ (call (Value.ref 61) _ _) _ _ _); (try dsimp only); (first | (refine' use_ctr2 (dec_begin _) ?zqF ?zqN ?zqnd ?zqB ?zqX ?zqT ?zqA ?zqf ?zqk ?zqh ?zqd ?zqu ?_; (((case zqF => k_asm); (case zqN => (first | k_asm | (refine' drop1 ?zqn9; (case zqn9 => k_asm)) | (refine' drop2 ?zqn9; (case zqn9 => k_asm)) | (refine' drop3 ?zqn9; (case zqn9 => k_asm)) | (refine' drop4 ?zqn9; (case zqn9 => k_asm)))); (case zqnd => (first | assumption | (refine nodup_join ?zqna ?zqnb ?zqnc; (case zqna => (simp only [List.map_cons, List.map_nil]; first | (simp only [List.nodup_cons, List.not_mem_nil, not_false_eq_true, List.nodup_nil, and_self]; done) | (refine nd2 ?_ <;> k_ne) | (refine nd3 ?_ ?_ ?_ <;> k_ne) | (refine nd4 ?_ ?_ ?_ ?_ ?_ ?_ <;> k_ne))); (case zqnb => (simp only [List.map_cons, List.map_nil]; walk_at "off")); (case zqnc => assumption)) | fail "nodup")); (case zqB => k_asm); (case zqX => k_asm); (case zqT => k_asm); (case zqA => k_asm); (case zqf => exact rfl); (case zqk => exact rfl); (case zqh => assumption); (case zqd => (first | exact room2 (by assumption) (by decide) | exact room3 (by assumption) (by decide) | walk_at "om")); (case zqu => (first | exact room2 (by assumption) (by decide) | exact room3 (by assumption) (by decide) | walk_at "om"))))) | (refine' use_ctr2 (enc_begin _) ?zqF ?zqN ?zqnd ?zqB ?zqX ?zqT ?zqA ?zqf ?zqk ?zqh ?zqd ?zqu ?_; (((case zqF => k_asm); (case zqN => (first | k_asm | (refine' drop1 ?zqn9; (case zqn9 => k_asm)) | (refine' drop2 ?zqn9; (case zqn9 => k_asm)) | (refine' drop3 ?zqn9; (case zqn9 => k_asm)) | (refine' drop4 ?zqn9; (case zqn9 => k_asm)))); (case zqnd => (first | assumption | (refine nodup_join ?zqna ?zqnb ?zqnc; (case zqna => (simp only [List.map_cons, List.map_nil]; first | (simp only [List.nodup_cons, List.not_mem_nil, not_false_eq_true, List.nodup_nil, and_self]; done) | (refine nd2 ?_ <;> k_ne) | (refine nd3 ?_ ?_ ?_ <;> k_ne) | (refine nd4 ?_ ?_ ?_ ?_ ?_ ?_ <;> k_ne))); (case zqnb => (simp only [List.map_cons, List.map_nil]; walk_at "off")); (case zqnc => assumption)) | fail "nodup")); (case zqB => k_asm); (case zqX => k_asm); (case zqT => k_asm); (case zqA => k_asm); (case zqf => exact rfl); (case zqk => exact rfl); (case zqh => assumption); (case zqd => (first | exact room2 (by assumption) (by decide) | exact room3 (by assumption) (by decide) | walk_at "om")); (case zqu => (first | exact room2 (by assumption) (by decide) | exact room3 (by assumption) (by decide) | walk_at "om")))))); intro _ _ _ _ _ N' nd' hp'; obtain ⟨q1, q2⟩ := hp'; subst q1; obtain ⟨_, _, _, _, _, q3⟩ := q2; subst q3; (try k_sweep); (try dsimp only at N' nd'); (try simp only [List.cons_append, List.nil_append] at N'); ((rename List.Nodup _ => nd9; have e1 := ownOff_of nd9; have e2 := nodup_rest nd9; have e3 := nodup_own nd9; simp only [List.map_cons, List.map_nil] at e1 e3; obtain ⟨_, _, _⟩ := ne3 e3; clear e3)); dsimp only) | (((with_reducible show wpC _ _ (execs (_ :: _) _) _ _ _); refine execs_cons_G ?_; intro _ _ _)) | (((with_reducible show wpC _ _ (execs [] _) _ _ _); refine execs_nil_C ?_)) | (((with_reducible show wpC _ _ (exec (Stmt.Expr _ _) _) _ _ _); refine exec_Expr_C ?_)) | (((with_reducible show wpC _ _ (exec _ _) _ _ _); refine wpC_any ?_)) | (((with_reducible show wpC _ _ (eval (Expr.Call (Expr.Attribute _ _ _) _ _ _) _) _ _ _); refine eval_CallMeth_C ?_)) | (((with_reducible show wpC _ _ (callWith _ (Value.ref _) _ _ _) _ _ _); first | (refine' callWith_CK0 ?zqk1 ?zqk2 ?_; (case zqk1 => k_in); (case zqk2 => k_is)) | (refine' callWith_CK ?zqk1 ?zqk2 ?_; (case zqk1 => k_asm); (case zqk2 => k_is)))))) | (dsimp only; (with_reducible show wpC _ _ _ _ _ _)) | ((fail_if_success (with_reducible show wpC _ _ _ _ _ _)); (first | walk1 | (dsimp only; walk1)))))
  all_goals walk_at "ands"
  all_goals (refine' ret .none _ _ [(x, _), (dx, _), (_, _)] ?a ?b ?c ⟨rfl, ?d⟩; (case a => k_asm); (case b => (first | k_asm | (refine' drop1 ?zqn9; (case zqn9 => k_asm)) | (refine' drop2 ?zqn9; (case zqn9 => k_asm)) | (refine' drop3 ?zqn9; (case zqn9 => k_asm)) | (refine' drop4 ?zqn9; (case zqn9 => k_asm)))); (case c => (first | assumption | (refine nodup_join ?zqna ?zqnb ?zqnc; (case zqna => (simp only [List.map_cons, List.map_nil]; first | (simp only [List.nodup_cons, List.not_mem_nil, not_false_eq_true, List.nodup_nil, and_self]; done) | (refine nd2 ?_ <;> k_ne) | (refine nd3 ?_ ?_ ?_ <;> k_ne) | (refine nd4 ?_ ?_ ?_ ?_ ?_ ?_ <;> k_ne))); (case zqnb => (simp only [List.map_cons, List.map_nil]; walk_at "off")); (case zqnc => assumption)) | fail "nodup")); (case d => exact decAt_of))
theorem enc_init (w : World) {x dx : Addr} {rc : Int} {tb : Tok} :
    Ctr w 3 151 [.ref x, .int rc tb] [(x, instObj 189 dx), (dx, dictOf [] 0)] (fun v l' => v = .none ∧ EncAt w.params x false #[] rc ⟨#[], 0, #[], 0, 0⟩ l') := by
  intro A A₀ base h₀ outer L m mg mb env pg loose mean rest s R B F X₀ LD T hA hf hke hh hd hu ret
  obtain ⟨N, nd⟩ := LD
  ((rename List.Nodup _ => nd9; have e1 := ownOff_of nd9; have e2 := nodup_rest nd9; have e3 := nodup_own nd9; simp only [List.map_cons, List.map_nil] at e1 e3; have e4 := ne2 e3; clear e3))
  simp only [List.cons_append, List.nil_append] at N
  revert X₀; k_fill; intro X₀
  refine' def_C (binds := [(Str.ofString "self", .ref x), (Str.ofString "record", .int rc tb)]) B F X₀ N T hA hf hke ?k6 ?k7 ?k8 ?k9 ?kB ?_ ?c2 ?c3 ?c4 ?c5
  (( (case k6 => k_is); (case k7 => k_is); (case k8 => walk_at "om"); (case k9 => first | exact BindsTo.of_eq rfl | exact binds_K (by k_in) rfl (by k_is) rfl rfl rfl | fail "enter: no rule for these arguments"); (case c5 => decide); (case kB => exact locs rfl); (case c2 => exact rfl); (case c3 => exact rfl); (case c4 => exact rfl)))
  intro g' L' h' FG' F' N' B' X' T' l1
  clear F N FG'
  (repeat' (first | (k_unfold; (try dsimp only)) | (first | (with_reducible first | ((show (_ : Flow → Shared → Prop) _ _); rename Flow → Shared → Prop => K9; rename KR K9 _ => kr9; rename KN K9 _ => kn9; (first | refine kn9 _ ?_ | refine kr9.ret _ _ ?_ | refine kr9.brk _ ?_ | refine kr9.cont _ ?_); clear kn9 kr9 K9; (try dsimp only)) | ((show (_ : Flow → Shared → Prop) _ _); (first | refine kn_go (by assumption) ?_ | refine kr_go (by assumption) ?_); (try dsimp only)) | ((show (_ : Bool → Shared → Prop) _ _); rename Bool → Shared → Prop => K9; rename KT K9 _ => kb9; refine kb9 _ _ ?_; clear kb9 K9; (try dsimp only)))) | ((with_reducible show wpC _ _ _ _ _ _); (first | ((with_reducible show wpC _ _ (call (Value.ref 61) _ _) _ _ _); (try dsimp only); (first | (refine' use_ctr2 (dec_begin _) ?zqF ?zqN ?zqnd ?zqB ?zqX ?zqT ?zqA ?zqf ?zqk ?zqh ?zqd ?zqu ?_; (((case zqF => k_asm); (case zqN => (first | k_asm | (refine' drop1 ?zqn9; (case zqn9 => k_asm)) | (refine' drop2 ?zqn9; (case zqn9 => k_asm)) | (refine' drop3 ?zqn9; (case zqn9 => k_asm)) | (refine' drop4 ?zqn9; (case zqn9 => k_asm)))); (case zqnd => (first | assumption | (refine nodup_join ?zqna ?zqnb ?zqnc; (case zqna => (simp only [List.map_cons, List.map_nil]; first | (simp only [List.nodup_cons, List.not_mem_nil, not_false_eq_true, List.nodup_nil, and_self]; done) | (refine nd2 ?_ <;> k_ne) | (refine nd3 ?_ ?_ ?_ <;> k_ne) | (refine nd4 ?_ ?_ ?_ ?_ ?_ ?_ <;> k_ne))); (case zqnb => (simp only [List.map_cons, List.map_nil]; walk_at "off")); (case zqnc => assumption)) | fail "nodup")); (case zqB => k_asm); (case zqX => k_asm); (case zqT => k_asm); (case zqA => k_asm); (case zqf => exact rfl); (case zqk => exact rfl); (case zqh => assumption); (case zqd => (first | exact room2 (by assumption) (by decide) | exact room3 (by assumption) (by decide) | walk_at "om")); (case zqu => (first | exact room2 (by assumption) (by decide) | exact room3 (by assumption) (by decide) | walk_at "om"))))) | (refine' use_ctr2 (enc_begin _) ?zqF ?zqN ?zqnd ?zqB ?zqX ?zqT ?zqA ?zqf ?zqk ?zqh ?zqd ?zqu ?_; (((case zqF => k_asm); (case zqN => (first | k_asm | (refine' drop1 ?zqn9; (case zqn9 => k_asm)) | (refine' drop2 ?zqn9; (case zqn9 => k_asm)) | (refine' drop3 ?zqn9; (case zqn9 => k_asm)) | (refine' drop4 ?zqn9; (case zqn9 => k_asm)))); (case zqnd => (first | assumption | (refine nodup_join ?zqna ?zqnb ?zqnc; (case zqna => (simp only [List.map_cons, List.map_nil]; first | (simp only [List.nodup_cons, List.not_mem_nil, not_false_eq_true, List.nodup_nil, and_self]; done) | (refine nd2 ?_ <;> k_ne) | (refine nd3 ?_ ?_ ?_ <;> k_ne) | (refine nd4 ?_ ?_ ?_ ?_ ?_ ?_ <;> k_ne))); (case zqnb => (simp only [List.map_cons, List.map_nil]; walk_at "off")); (case zqnc => assumption)) | fail "nodup")); (case zqB => k_asm); (case zqX => k_asm); (case zqT => k_asm); (case zqA => k_asm); (case zqf => exact rfl); (case zqk => exact rfl); (case zqh => assumption); (case zqd => (first | exact room2 (by assumption) (by decide) | exact room3 (by assumption) (by decide) | walk_at "om")); (case zqu => (first | exact room2 (by assumption) (by decide) | exact room3 (by assumption) (by decide) | walk_at "om")))))); intro _ _ _ _ _ N' nd' hp'; obtain ⟨q1, q2⟩ := hp'; subst q1; obtain ⟨_, _, _, _, _, q3⟩ := q2; subst q3; (try k_sweep); (try dsimp only at N' nd'); (try simp only [List.cons_append, List.nil_append] at N'); ((rename List.Nodup _ => nd9; have e1 := ownOff_of nd9; have e2 := nodup_rest nd9; have e3 := nodup_own nd9; simp only [List.map_cons, List.map_nil] at e1 e3; obtain ⟨_, _, _⟩ := ne3 e3; clear e3)); dsimp only) | (((with_reducible show wpC _ _ (call (Value.type "bytearray") _ _) _ _ _); (refine' call_ba ?zqk1 ?zqk2 ?_; (case zqk1 => k_asm); (case zqk2 => k_asm)); intro _ _ _ _ l1; (try k_lt l1); (try k_sweep))) | (((with_reducible show wpC _ _ (execs (_ :: _) _) _ _ _); refine execs_cons_G ?_; intro _ _ _)) | (((with_reducible show wpC _ _ (execs [] _) _ _ _); refine execs_nil_C ?_)) | (((with_reducible show wpC _ _ (exec (Stmt.Expr _ _) _) _ _ _); refine exec_Expr_C ?_)) | (((with_reducible show wpC _ _ (exec (Stmt.Assign [Expr.Attribute _ _ _] (Expr.Call _ _ _ _) _) _) _ _ _); refine exec_AssignAttr_C ?_)) | (((with_reducible show wpC _ _ (exec _ _) _ _ _); refine wpC_any ?_)) | (((with_reducible show wpC _ _ (eval (Expr.Call (Expr.Name _ _) _ _ _) _) _ _ _); refine eval_CallName_C ?_)) | (((with_reducible show wpC _ _ (eval (Expr.Call (Expr.Attribute _ _ _) _ _ _) _) _ _ _); refine eval_CallMeth_C ?_)) | (((with_reducible show wpC _ _ (callWith _ (Value.type _) _ _ _) _ _ _); first | refine callWith_CT0 ?_ | refine callWith_CT (wpC_any ?_))) | (((with_reducible show wpC _ _ (callWith _ (Value.ref _) _ _ _) _ _ _); first | (refine' callWith_CK0 ?zqk1 ?zqk2 ?_; (case zqk1 => k_in); (case zqk2 => k_is)) | (refine' callWith_CK ?zqk1 ?zqk2 ?_; (case zqk1 => k_asm); (case zqk2 => k_is)))))) | (dsimp only; (with_reducible show wpC _ _ _ _ _ _)) | ((fail_if_success (with_reducible show wpC _ _ _ _ _ _)); (first | walk1 | (dsimp only; walk1)))))
  all_goals walk_at "ands"
  all_goals (refine' ret .none _ _ [(x, _), (dx, _), (_, _), (_, _)] ?a ?b ?c ⟨rfl, ?d⟩; (case a => k_asm); (case b => refine' pick3q ?n; (case n => k_asm)); (case c => (first | assumption | (refine nodup_join ?zqna ?zqnb ?zqnc; (case zqna => (simp only [List.map_cons, List.map_nil]; first | (simp only [List.nodup_cons, List.not_mem_nil, not_false_eq_true, List.nodup_nil, and_self]; done) | (refine nd2 ?_ <;> k_ne) | (refine nd3 ?_ ?_ ?_ <;> k_ne) | (refine nd4 ?_ ?_ ?_ ?_ ?_ ?_ <;> k_ne))); (case zqnb => (simp only [List.map_cons, List.map_nil]; walk_at "off")); (case zqnc => assumption)) | fail "nodup")); (case d => exact encAt_of))
theorem use_makeD {w : World}
    {A A₀ : Around} {base h₀ : Heap} {outer : List Env} {L : Addr} {m mg mb : Str → Option Value} {env : Env} {p : Program} {loose : List Str} {mean : ExcName → Option Value} {rest : List (Addr × Obj)} {s : Shared} {Q E : Value → Shared → Prop}
    (F : Fr h₀ L s.heap m) (N : News h₀ L s.heap rest) (nd : (rest.map (·.1)).Nodup) (B : Below A₀ base outer h₀) (X : (Mine0.hd.heap_1 w.params).In h₀) (T : Top p loose mean mg mb h₀)
    (hA : A.frames = some outer) (hf : env.frame = some L) (hk : env.scope.kind = .function) (hh : A.handled = none) (hd : A.depth + 1 + 1 + 3 < recursionLimit) (hu : A.units + 3 + 1 + 8 * 3 < cLine)
    (h : ∀ (x : Addr) (h' : Heap) (tk' : Tok) (dx o : Addr) (zt : DTok), Fr h₀ L h' m → News h₀ L h' ((x, instObj 134 dx) :: (dx, decD w.params zt false #[] o 0 0) :: (o, baObj #[]) :: rest) → (x :: dx :: o :: rest.map (·.1)).Nodup → OwnOff rest [x, dx, o] → (rest.map (·.1)).Nodup → x ≠ dx → x ≠ o → dx ≠ o → Q (.ref x) { s with heap := h', toks := tk' }) :
    wpC (model PySem.Challenge.rw_nt0489_01.row.prog w) (A.deeper env) (call (.ref 134) []) Q E s := by
  revert X; k_fill; intro X
  refine use_make (fun x dx => dec_init w) F N nd B X T hA hf hk hh hd hu (by k_is) (by k_is) (by k_is) ?_
  rintro x h' tk' l' F' N' nd' ⟨dx, o, zt, rfl⟩
  have e3 := nodup_own nd'
  simp only [List.map_cons, List.map_nil] at e3
  obtain ⟨n1, n2, n3⟩ := ne3 e3
  exact h x h' tk' dx o zt F' N' nd' (ownOff_of nd') (nodup_rest nd') n1 n2 n3
theorem use_makeE {w : World} {rc : Int} {tb : Tok}
    {A A₀ : Around} {base h₀ : Heap} {outer : List Env} {L : Addr} {m mg mb : Str → Option Value} {env : Env} {p : Program} {loose : List Str} {mean : ExcName → Option Value} {rest : List (Addr × Obj)} {s : Shared} {Q E : Value → Shared → Prop}
    (F : Fr h₀ L s.heap m) (N : News h₀ L s.heap rest) (nd : (rest.map (·.1)).Nodup) (B : Below A₀ base outer h₀) (X : (Mine0.hd.heap_1 w.params).In h₀) (T : Top p loose mean mg mb h₀)
    (hA : A.frames = some outer) (hf : env.frame = some L) (hk : env.scope.kind = .function) (hh : A.handled = none) (hd : A.depth + 1 + 1 + 3 < recursionLimit) (hu : A.units + 3 + 1 + 8 * 3 < cLine)
    (h : ∀ (x : Addr) (h' : Heap) (tk' : Tok) (dx o p : Addr) (zt : ETok), Fr h₀ L h' m → News h₀ L h' ((x, instObj 189 dx) :: (dx, encD w.params zt false #[] o rc 0 p 0 0) :: (o, baObj #[]) :: (p, baObj #[]) :: rest) → (x :: dx :: o :: p :: rest.map (·.1)).Nodup → OwnOff rest [x, dx, o, p] → (rest.map (·.1)).Nodup → x ≠ dx → x ≠ o → x ≠ p → dx ≠ o → dx ≠ p → o ≠ p → Q (.ref x) { s with heap := h', toks := tk' }) :
    wpC (model PySem.Challenge.rw_nt0489_01.row.prog w) (A.deeper env) (call (.ref 189) [.int rc tb]) Q E s := by
  revert X; k_fill; intro X
  refine use_make (fun x dx => enc_init w) F N nd B X T hA hf hk hh hd hu (by k_is) (by k_is) (by k_is) ?_
  rintro x h' tk' l' F' N' nd' ⟨dx, o, p, zt, rfl⟩
  have e3 := nodup_own nd'
  simp only [List.map_cons, List.map_nil] at e3
  obtain ⟨n1, n2, n3, n4, n5, n6⟩ := ne4 e3
  exact h x h' tk' dx o p zt F' N' nd' (ownOff_of nd') (nodup_rest nd') n1 n2 n3 n4 n5 n6
end
section
theorem begins_X3 : True := by
  w_top off
  exact trivial
theorem ownOff_one {rest : List (Addr × Obj)} {a : Addr} (h : OwnOff rest [a]) : ∀ p ∈ rest, p.1 ≠ a := fun p hp => h p hp a (.head _)
abbrev toldD (P : Params) (k : Tok) (v : Value) : Obj := dictOf [⟨PyData.keyHash P (Str.ofString "told"), .str (Str.ofString "told") k, v⟩] 1
abbrev exc1 (t : Addr) : Array Value := #[.ref t, .none, .none, .none, .bool false, .none]
theorem nd1' {a b : Addr} {l : List (Addr × Obj)} {o o' : Obj} (h1 : a ≠ b) (h2 : ∀ p ∈ l, p.1 ≠ a) (h3 : ∀ p ∈ l, p.1 ≠ b) (h4 : (l.map (·.1)).Nodup) : (((a, o) :: (b, o') :: l).map (·.1)).Nodup :=
  nodup_join (l := [(a, o), (b, o')]) (nd2 h1) (ownOff_cons h2 (ownOff_cons h3 ownOff_nil)) h4
local macro_rules | `(tactic| walk_at "setAttr ref") => `(tactic| (k_here; (with_reducible show wpAny _ _ (setAttr (Value.ref _) (Str.ofString "told") _) _ _ _); (refine' set_exc ?k1 ?k2 ?k3 ?k4 ?k5 ?k6 ?k7 ?_; (case k1 => k_asm); (case k2 => k_asm); (case k3 => k_asm); (case k4 => k_all); (case k5 => exact rfl); (case k6 => k_is); (case k7 => k_is)); intro d' h' F' N' l2 l3; (try k_sweep)))
theorem exc_init (w : World) {x t : Addr} {v : Value} :
    Ctr w 1 29 [.ref x, v] [(x, excNew 45 t)] (fun r l' => r = .none ∧ ∃ d k, l' = [(x, excObj 45 d (exc1 t)), (d, toldD w.params k v)]) := by
  intro A A₀ base h₀ outer L m mg mb env p loose mean rest s R B F X₀ LD T hA hf hke hh hd hu ret
  obtain ⟨N, nd⟩ := LD
  have e1 := ownOff_of nd
  have e2 := nodup_rest nd
  simp only [List.map_cons, List.map_nil] at e1
  simp only [List.cons_append, List.nil_append] at N
  revert X₀; k_fill; intro X₀
  refine' def_C (binds := [(Str.ofString "self", .ref x), (Str.ofString "told", v)]) B F X₀ N T hA hf hke ?k6 ?k7 ?k8 ?k9 ?kB ?_ ?c2 ?c3 ?c4 ?c5
  (( (case k6 => k_is); (case k7 => k_is); (case k8 => walk_at "om"); (case k9 => first | exact BindsTo.of_eq rfl | exact binds_K (by k_in) rfl (by k_is) rfl rfl rfl | fail "enter: no rule for these arguments"); (case c5 => decide); (case kB => exact locs rfl); (case c2 => exact rfl); (case c3 => exact rfl); (case c4 => exact rfl)))
  intro g' L' h' FG' F' N' B' X' T' l1
  clear F N FG'
  (repeat' (first | (k_unfold; (try dsimp only)) | (first | (with_reducible first | ((show (_ : Flow → Shared → Prop) _ _); rename Flow → Shared → Prop => K9; rename KR K9 _ => kr9; rename KN K9 _ => kn9; (first | refine kn9 _ ?_ | refine kr9.ret _ _ ?_ | refine kr9.brk _ ?_ | refine kr9.cont _ ?_); clear kn9 kr9 K9; (try dsimp only)) | ((show (_ : Flow → Shared → Prop) _ _); (first | refine kn_go (by assumption) ?_ | refine kr_go (by assumption) ?_); (try dsimp only)) | ((show (_ : Bool → Shared → Prop) _ _); rename Bool → Shared → Prop => K9; rename KT K9 _ => kb9; refine kb9 _ _ ?_; clear kb9 K9; (try dsimp only)))) | ((with_reducible show wpC _ _ _ _ _ _); (first | (((with_reducible show wpC _ _ (execs (_ :: _) _) _ _ _); refine execs_cons_G ?_; intro _ _ _)) | (((with_reducible show wpC _ _ (execs [] _) _ _ _); refine execs_nil_C ?_)) | (((with_reducible show wpC _ _ (exec _ _) _ _ _); refine wpC_any ?_)))) | (dsimp only; (with_reducible show wpC _ _ _ _ _ _)) | ((fail_if_success (with_reducible show wpC _ _ _ _ _ _)); (first | walk1 | (dsimp only; walk1)))))
  all_goals (refine' ret .none _ _ [(x, _), (_, _)] ?a ?b ?c ⟨rfl, ?d⟩; (case a => k_asm); (case b => k_asm); (case c => refine nd1' ?n1 (ownOff_one e1) ?n2 e2; (case n1 => (refine Nat.ne_of_lt ?_; assumption)); (case n2 => (intro p9 hp9; refine Nat.ne_of_lt ?_; apply_assumption; assumption))); (case d => exact ⟨_, _, rfl⟩))
end
section
open Sem (wp)
section
variable {M : Model} {A : Around} {E : Value → Shared → Prop} {s s' : Shared} {base g h : Heap} {outer : List Env} {L a e C d : Addr} {m : Str → Option Value} {name : Str} {scope : Scope} {cd : Value} {Q : Unit → Shared → Prop} {news : List (Addr × Obj)} {t : Addr} {a0 : Value}
/-- an exception with a dict of its own flies out to the frames l, the ledger kept -/
def RaisedD (base : Heap) (l : List Env) (e C d : Addr) (a0 : Value) (news : List (Addr × Obj)) (h : Heap) : Prop :=
  ∃ B, base.StaysIn B ∧ (∀ q ∈ news, B.get? q.1 = some q.2 ∧ base.get? q.1 = none) ∧ FlyD B l e C d a0 h
theorem RaisedD.sub {l : List Env} {news' : List (Addr × Obj)} (R : RaisedD base l e C d a0 news h) (hs : ∀ p ∈ news', p ∈ news) : RaisedD base l e C d a0 news' h := by
  obtain ⟨B, h1, h2, h3⟩ := R
  exact ⟨B, h1, fun q hq => h2 q (hs q hq), h3⟩
theorem leave_raiseD (K : Below A base outer g) (F : Fr g L s'.heap m) (N : News g L s'.heap ((e, excObj C d (exc1 t)) :: news)) (hne : ∀ p ∈ news, p.1 ≠ e)
    (hQ : ∀ h', RaisedD base outer e C d (.ref t) news h' → g.UpToSlots h' → Q () { s' with heap := h' }) (hk : scope.kind = .function := by rfl) :
    wpAny M (A.deeper (envOf name scope L a cd)) (leaving (envOf name scope L a cd) (.ref e)) Q E s' := by
  have K' := K.push (name := name) (a := a) (cd := cd) F hk
  have hx := N _ (.head _)
  have hin : ∀ env ∈ (envOf name scope L a cd :: outer), ∀ b, env.frame = some b → b ∈ e :: (envOf name scope L a cd :: outer).filterMap (·.frame) := fun env he b hb => .tail _ (List.mem_filterMap.mpr ⟨env, he, hb⟩)
  have hbe : base.get? e = none := fresh_of_stays K.stays hx.2.2
  have st : base.StaysIn (hideAll s'.heap (e :: (envOf name scope L a cd :: outer).filterMap (·.frame))) := fun b o q => hideAll_get _ (K'.stays b o q) fun hm => by
    rcases List.mem_cons.mp hm with rfl | hm
    · rw [hbe] at q; cases q
    · rw [(K'.frames.mem hm).1] at q; cases q
  have hl : ∀ q ∈ news, (hideAll s'.heap (e :: (envOf name scope L a cd :: outer).filterMap (·.frame))).get? q.1 = some q.2 ∧ base.get? q.1 = none := fun q hq => by
    have nq := N q (.tail _ hq)
    refine ⟨hideAll_get _ nq.1 fun hm => ?_, fresh_of_stays K.stays nq.2.2⟩
    rcases List.mem_cons.mp hm with hm | hm
    · exact hne q hq hm
    obtain ⟨env, he, hf⟩ := List.mem_filterMap.mp hm
    rcases List.mem_cons.mp he with rfl | he
    · exact nq.2.1 (Option.some.inj hf).symm
    · obtain ⟨o, ho, _⟩ := (K.frames.mem (List.mem_filterMap.mpr ⟨env, he, hf⟩)).2
      rw [nq.2.2] at ho; cases ho
  exact leave_first_D K'.stack (funFrames_hide K'.frames hin) rfl hx.1 (fun b o q => of_hideAll _ q) (hideAll_none _ (.head _)) rfl rfl
    fun h' x1 x2 => hQ h' ⟨_, st, hl, x1⟩ ((Heap.UpToSlots.of_keeps F.keep).trans x2)
theorem leave_onD {g₂ : Heap} (K : Below A base outer g) (F : Fr g L g₂ m) (R : RaisedD base (envOf name scope L a cd :: outer) e C d a0 news s'.heap) (hsm : g₂.UpToSlots s'.heap)
    (hQ : ∀ h', RaisedD base outer e C d a0 news h' → g.UpToSlots h' → Q () { s' with heap := h' }) :
    wpAny M (A.deeper (envOf name scope L a cd)) (leaving (envOf name scope L a cd) (.ref e)) Q E s' := by
  obtain ⟨B, hB, hl, hfl⟩ := R
  exact leave_next_D (Around.frames_deeper K.stack) rfl hfl fun h' x1 x2 => hQ h' ⟨B, hB, hl, x1⟩ ((Heap.UpToSlots.of_keeps F.keep).trans (hsm.trans x2))
end
section
variable {M : Model} {A : Around} {E : Value → Shared → Prop} {s : Shared} {env : Env}
variable {nm q : Str} {C N P : Addr} {bs : List Value} {hdct : Bool} {sn : List Str} {sub : List Value} {ab : Bool} {col : Option Bool} {dd : Option Addr} {k0 k1 k2 k3 k5 : Option Value}
/-- raise of an exception just made -/
theorem exec_Raise_C {x : Expr} {pos : Pos} {Q : Flow → Shared → Prop} (hh : A.handled = none)
    (h : wpC M A (eval x env) (fun v s₁ => ∃ e d t, v = .ref e ∧ s₁.heap.get? C = some (excClassObj nm q C N bs (tailX P) hdct sn sub ab col dd k0 k1 k2 k3 k5 "Exception.__new__") ∧
      s₁.heap.get? e = some (excObj C d (exc1 t)) ∧ E (.ref e) s₁) E s) :
    wpC M A (exec (.Raise (some x) none pos) env) Q E s := by
  have hcB : (Value.ref C :: tailX P).contains (.type "BaseException") = true := by simp [tailX]
  rw [arm_exec_Raise]
  refine wpC_bind (wpC_standAt ?_)
  show wpC M A (raiseStmt env (some (eval x env >>= fun v => standAt pos >>= fun _ => pure v)) none) Q E s
  unfold raiseStmt
  refine wpC_bind (m := (eval x env >>= fun v => standAt pos >>= fun _ => pure v)) (wpC_bind (wpC_mono h (fun v s₁ h₁ => wpC_bind (wpC_standAt (wpC_pure (wpC_any ?_)))) fun _ _ x => x))
  obtain ⟨e, d, t, rfl, hC, he, hE⟩ := h₁
  obtain ⟨hp, g, d, tk, os⟩ := s₁
  repeat (first | with_reducible refine wpAny_loadPart_at he ?_ | with_reducible refine wpAny_loadPart_at hC ?_ | (with_reducible refine wpAny_isSubtype_exc hC ?_; rw [hcB]) | wp_step)
  exact wpAny_raiseNew_none hh hE
end
end
section
theorem begins_D1 : True := by
  w_top off
  exact trivial
theorem dec_take (w : World) {x : Addr} {st : Dec} {l : List (Addr × Obj)} {n : Int} {tb : Tok} (hl : DecAt w.params x st l) (h0 : 0 ≤ n) (h1 : n < 256) (hz : st.out.size + 256 ≤ 16777216) (hm : st.many ≤ 128) :
    Ctr w 2 124 [.ref x, .int n tb] l (fun v l' => v = .none ∧ DecAt w.params x (st.take n) l') := by
  intro A A₀ base h₀ outer L m mg mb env p loose mean rest s R B F X₀ LD T hA hf hke hh hd hu ret
  obtain ⟨dx, o, k1, rfl⟩ := hl
  obtain ⟨N, nd⟩ := LD
  ((rename List.Nodup _ => nd9; have e1 := ownOff_of nd9; have e2 := nodup_rest nd9; have e3 := nodup_own nd9; simp only [List.map_cons, List.map_nil] at e1 e3; obtain ⟨_, _, _⟩ := ne3 e3; clear e3))
  simp only [List.cons_append, List.nil_append] at N
  obtain ⟨dn, lf, out, pl, mn⟩ := st
  dsimp only at *
  revert X₀; k_fill; intro X₀
  refine' def_C (binds := [(Str.ofString "self", .ref x), (Str.ofString "octet", .int n tb)]) B F X₀ N T hA hf hke ?k6 ?k7 ?k8 ?k9 ?kB ?_ ?c2 ?c3 ?c4 ?c5
  (( (case k6 => k_is); (case k7 => k_is); (case k8 => walk_at "om"); (case k9 => first | exact BindsTo.of_eq rfl | exact binds_K (by k_in) rfl (by k_is) rfl rfl rfl | fail "enter: no rule for these arguments"); (case c5 => decide); (case kB => exact locs rfl); (case c2 => exact rfl); (case c3 => exact rfl); (case c4 => exact rfl)))
  intro g' L' h' FG' F' N' B' X' T' l1
  clear F N FG'
  (repeat' (first | (k_unfold; (try dsimp only)) | (first | (with_reducible first | ((show (_ : Flow → Shared → Prop) _ _); rename Flow → Shared → Prop => K9; rename KR K9 _ => kr9; rename KN K9 _ => kn9; (first | refine kn9 _ ?_ | refine kr9.ret _ _ ?_ | refine kr9.brk _ ?_ | refine kr9.cont _ ?_); clear kn9 kr9 K9; (try dsimp only)) | ((show (_ : Flow → Shared → Prop) _ _); (first | refine kn_go (by assumption) ?_ | refine kr_go (by assumption) ?_); (try dsimp only)) | ((show (_ : Bool → Shared → Prop) _ _); rename Bool → Shared → Prop => K9; rename KT K9 _ => kb9; refine kb9 _ _ ?_; clear kb9 K9; (try dsimp only)))) | ((with_reducible show wpC _ _ _ _ _ _); (first | (((with_reducible show wpC _ _ (call (Value.builtin "bytearray.append") _ _) _ _ _); (refine' ba_append ?zqk1 ?zqk2 ?zqk3 ?zqk4 ?zqk5 ?zqk6 ?_; (case zqk1 => k_asm); (case zqk2 => k_asm); (case zqk3 => k_upd); (case zqk4 => walk_at "om"); (case zqk5 => walk_at "om"); (case zqk6 => walk_at "szs")); intro _ _ _; (try k_sweep))) | (((with_reducible show wpC _ _ (call (Value.builtin "bytearray.extend") _ _) _ _ _); (refine' ba_extend ?zqhh ?zqk1 ?zqk2 ?zqk3 ?zqk4 ?zqk5 ?zqk6 ?zqk7 ?_; (case zqhh => assumption); (case zqk1 => k_asm); (case zqk2 => k_asm); (case zqk4 => first | is_list | exact News.isList (by k_asm) (by k_mem)); (case zqk5 => first | l_ints | assumption); (case zqk3 => k_upd); (case zqk6 => walk_at "rng"); (case zqk7 => walk_at "szs")); intro _ _ _ _; (try k_sweep))) | (((with_reducible show wpC _ _ (execs (_ :: _) _) _ _ _); refine execs_cons_G ?_; intro _ _ _)) | (((with_reducible show wpC _ _ (execs [] _) _ _ _); refine execs_nil_C ?_)) | (((with_reducible show wpC _ _ (exec (Stmt.If _ _ _ _) _) _ _ _); refine exec_If_G ?_; intro _ _)) | (((with_reducible show wpC _ _ (exec (Stmt.Expr _ _) _) _ _ _); refine exec_Expr_C ?_)) | (((with_reducible show wpC _ _ (exec _ _) _ _ _); refine wpC_any ?_)) | (((with_reducible show wpC _ _ (eval (Expr.Call (Expr.Attribute _ _ _) _ _ _) _) _ _ _); refine eval_CallMeth_C ?_)) | (((with_reducible show wpC _ _ (callWith _ (Value.builtin _) _ _ _) _ _ _); refine callWith_CB ?_)))) | (dsimp only; (with_reducible show wpC _ _ _ _ _ _)) | ((fail_if_success (with_reducible show wpC _ _ _ _ _ _)); (first | walk1 | (dsimp only; walk1)))))
  all_goals (refine' ret .none _ _ [(x, _), (dx, _), (o, _)] ?a ?b ?c ⟨rfl, ?d⟩; (case a => k_asm); (case b => (first | k_asm | (refine' drop1 ?zqn9; (case zqn9 => k_asm)) | (refine' drop2 ?zqn9; (case zqn9 => k_asm)) | (refine' drop3 ?zqn9; (case zqn9 => k_asm)) | (refine' drop4 ?zqn9; (case zqn9 => k_asm)))); (case c => (first | assumption | (refine nodup_join ?zqna ?zqnb ?zqnc; (case zqna => (simp only [List.map_cons, List.map_nil]; first | (simp only [List.nodup_cons, List.not_mem_nil, not_false_eq_true, List.nodup_nil, and_self]; done) | (refine nd2 ?_ <;> k_ne) | (refine nd3 ?_ ?_ ?_ <;> k_ne) | (refine nd4 ?_ ?_ ?_ ?_ ?_ ?_ <;> k_ne))); (case zqnb => (simp only [List.map_cons, List.map_nil]; walk_at "off")); (case zqnc => assumption)) | fail "nodup")); (case d => (simp only [Dec.take, *, if_true, if_false]; (try simp only [List.flatten_replicate_singleton]); exact decAt_of)))
end
section
section
variable {prog : Program} {w : World} {A : Around} {E : Value → Shared → Prop} {s : Shared}
/-- the next of a walk over bytes, where a builtin asks for it -/
theorem next_of_bytes {it : Addr} {b : Array UInt8} {t : Tok} {i : Nat} {c : UInt8} {Q : Value → Shared → Prop} (hit : KBw.IsBytesIter s.heap it b t i) (hx : b[i]? = some c)
    (hQ : ∀ h', KBw.IsBytesIter h' it b t (i + 1) → Heap.SameBut it s.heap h' → Q (.int (c.toNat : Int) s.toks) { s with heap := h', toks := s.toks + 1 }) :
    wpAny (model prog w) A (Builtin.SmallTypes.nextOf (.ref it)) Q E s := by
  obtain ⟨o, ho, hc, hd⟩ := id hit
  unfold Builtin.SmallTypes.nextOf
  refine wpAny_bind (wpAny_callSpecial?_slot (name := Str.ofString "__next__") (KBw.iter_typeIs hit) KBw.slot_next
    (wpAny_call_entry KBw.slot_next (KBw.iter_typeIs hit) KBw.entry_next ?_ (KBw.args_next _)))
  show wpAny _ _ (field (.ref it) 0 >>= _) _ _ s
  refine wpAny_bind (wpAny_field ho hd (x := .bytes b t) rfl ?_)
  show wpAny _ _ (if (Value.bytes b t == Value.none) = true then _ else _) _ _ s
  rw [if_neg (by intro e; exact Bool.false_ne_true e)]
  show wpAny _ _ (field (.ref it) 1 >>= _) _ _ s
  refine wpAny_bind (wpAny_field ho hd (x := .int i 0) rfl ?_)
  refine wpAny_bind (wpAny_of_eq (a := b) rfl ?_)
  simp only [Int.toNat_natCast, hx]
  refine wpAny_bind (wpAny_setField ho hd (by simp) (wpAny_bind (wpAny_mkInt (wpAny_pure ⟨_, rfl, wpAny_pure (hQ _ ⟨_, Heap.get?_update_self _ ho (Obj.isFreed_of_fields (Obj.data_mapFields hd _)), (Obj.cls_mapFields ..).trans hc, ?_⟩ (Heap.SameBut.update ..))⟩))))
  rw [Obj.data_mapFields hd]
  simp [rawInt]
theorem end_of_bytes {it : Addr} {b : Array UInt8} {t : Tok} {i : Nat} {Q : Value → Shared → Prop} (hh : A.handled = none) (hit : KBw.IsBytesIter s.heap it b t i) (hx : b[i]? = none)
    (hE : ∀ h' e, Heap.ExtBut it s.heap h' → (∃ o, h'.get? e = some o ∧ o.cls = .type "StopIteration") → E (.ref e) { s with heap := h' }) :
    wpAny (model prog w) A (Builtin.SmallTypes.nextOf (.ref it)) Q E s := by
  obtain ⟨o, ho, hc, hd⟩ := id hit
  unfold Builtin.SmallTypes.nextOf
  refine wpAny_bind (wpAny_callSpecial?_slot (name := Str.ofString "__next__") (KBw.iter_typeIs hit) KBw.slot_next
    (wpAny_call_entry KBw.slot_next (KBw.iter_typeIs hit) KBw.entry_next ?_ (KBw.args_next _)))
  show wpAny _ _ (field (.ref it) 0 >>= _) _ _ s
  refine wpAny_bind (wpAny_field ho hd (x := .bytes b t) rfl ?_)
  show wpAny _ _ (if (Value.bytes b t == Value.none) = true then _ else _) _ _ s
  rw [if_neg (by intro e; exact Bool.false_ne_true e)]
  show wpAny _ _ (field (.ref it) 1 >>= _) _ _ s
  refine wpAny_bind (wpAny_field ho hd (x := .int i 0) rfl ?_)
  refine wpAny_bind (wpAny_of_eq (a := b) rfl ?_)
  simp only [Int.toNat_natCast, hx]
  refine wpAny_bind (wpAny_rule (wpAny_bind (wpAny_setField ho hd (by simp) ?_)))
  show wpAny _ _ (newExc (.type "StopIteration") [] >>= _) _ _ _
  refine wpAny_bind ?_
  simp only [newExc, newTuple]
  refine wpAny_bind (wpAny_newObj_type ?_ (by size_fits))
  refine wpAny_bind (m := firstArgMember _ _) (wpAny_of_eq (a := Value.none) (by first | rfl | (simp only [firstArgMember]; rfl)) ?_)
  refine wpAny_newObj_type ?_ (by size_fits)
  simp only [raiseNew]
  refine wpAny_bind (wpAny_handled ?_)
  rw [show A.in1.handled = none from hh]
  refine wpAny_bind (wpAny_pure (wpAny_throw (hE _ _ (((Heap.SameBut.update ..).extBut.push _).push _) ⟨_, Heap.get?_push_size _ rfl, rfl⟩)))
theorem draws_bytes (hh : A.handled = none) (it : Addr) (b : Array UInt8) (t : Tok) :
    Draws prog w A it [it] b.size (fun i v => ∃ c u, b[i]? = some c ∧ v = .int (c.toNat : Int) u) (fun i h => KBw.IsBytesIter h it b t i) where
  live := fun _ _ st => let ⟨o, ho, _⟩ := st; ⟨o, ho⟩
  frame := fun _ _ _ st hk => let ⟨o, ho, r⟩ := st; ⟨o, hk it (by simp) o ho, r⟩
  item := fun i s Q E hi st hQ => next_of_bytes st (c := b[i]) (by simp [hi]) fun h' hit' hs' => hQ _ h' (s.toks + 1) ⟨_, _, by simp [hi], rfl⟩ hit' hs'
  done := fun s Q E st hE => end_of_bytes hh st (by simp) hE
set_option maxHeartbeats 1000000 in
theorem meets_enum_bytes (b : Array UInt8) (t : Tok) :
    Meets (Builtin.«enumerate.__new__» ⟨[.type "enumerate", .bytes b t], []⟩) (fun _ R s =>
      R (.ok (.ret (.ref (s.heap.push { cls := .type "bytes_iterator", data := .fields #[.bytes b t, .int 0 0] }).objs.size)))
        { s with heap := (s.heap.push { cls := .type "bytes_iterator", data := .fields #[.bytes b t, .int 0 0] }).push { cls := .type "enumerate", data := .fields #[.none, .bool false, .ref s.heap.objs.size, rawInt 0, .none, .none] } }) :=
  .of_wp fun prog w A R s h => by
    obtain ⟨hp, g, d, tk, os⟩ := s
    have hsub := sub_enumerate
    wp_walk
    refine wpAny_stack_any fun st => wpAny_pure ?_
    split
    · rename_i c _ _ _ _ _
      cases (c == Value.type "enumerate")
      · wp_walk using KBw.pyIter_bytes
        exact ⟨_, rfl, h⟩
      · wp_walk using KBw.pyIter_bytes
        exact ⟨_, rfl, h⟩
    · wp_walk using KBw.pyIter_bytes
      exact ⟨_, rfl, h⟩
abbrev enumObj (it : Addr) (a i : Value) (old : Value) : Obj := { cls := .type "enumerate", dict := none, data := .fields #[a, .bool false, .ref it, i, .none, old], slots := #[] }
theorem call_enum_bytes {b : Array UInt8} {t : Tok} {h₀ : Heap} {L : Addr} {m : Str → Option Value} {news : List (Addr × Obj)} {Q : Value → Shared → Prop} (F₁ : Fr h₀ L s.heap m) (N : News h₀ L s.heap news)
    (h : ∀ e it h', Fr h₀ L h' m → News h₀ L h' ((e, enumObj it .none (rawInt 0) .none) :: (it, { cls := .type "bytes_iterator", data := .fields #[.bytes b t, .int 0 0] }) :: news) → (∀ p ∈ news, p.1 < it) → it < e → Q (.ref e) { s with heap := h' }) :
    wpAny (model prog w) A (call (.type "enumerate") [.bytes b t]) Q E s := by
  refine callType_new F.called_enumerate (by decide) (F.typeCall_enumerate_1 _) (F.newCall_enumerate_1 _) (fun obj => F.args_object_init_2 obj _) F.entry_enumerate_new (meets_enum_bytes b t) ?_
  have N1 := News.push F₁ N { cls := .type "bytes_iterator", data := .fields #[.bytes b t, .int 0 0] }
  have F2 := F₁.push { cls := .type "bytes_iterator", data := .fields #[.bytes b t, .int 0 0] }
  have N2 := News.push F2 N1 (enumObj s.heap.objs.size .none (rawInt 0) .none)
  have e1 : (s.heap.push { cls := .type "bytes_iterator", data := .fields #[.bytes b t, .int 0 0] }).objs.size = s.heap.objs.size + 1 := Heap.size_push ..
  exact ⟨⟨_, Heap.get?_push_size _ rfl, rfl⟩, h _ s.heap.objs.size _ (F2.push _) N2 (fun p hp => Heap.lt_size (N p hp).1) (by rw [e1]; exact Nat.lt_succ_self _)⟩
/-- a for loop over the numbered octets of bytes -/
theorem forEnum_C {R : Result → Shared → Prop} {env : Env} {h₀ : Heap} {xi xc : Str} {pk pv pt : Pos} {x1 : Nat} {body : List Stmt} {b : Array UInt8} {t : Tok} {e it : Addr} {m : Str → Option Value} {news : List (Addr × Obj)} (hh : A.handled = none)
    (hxi : env.kindOf xi = some .local) (hxc : env.kindOf xc = some .local)
    (hp : (env.scope.kind == .class || (env.scope.kind == .module && env.locals != env.globals)) = false)
    (J : Nat → (Str → Option Value) → List (Addr × Obj) → Prop) (h0 : J 0 m news)
    (F₀ : Fr h₀ env.locals s.heap m) (N₀ : News h₀ env.locals s.heap (news ++ [(e, enumObj it .none (rawInt 0) .none), (it, { cls := .type "bytes_iterator", data := .fields #[.bytes b t, .int 0 0] })]))
    (nd₀ : ((news ++ [(e, enumObj it .none (rawInt 0) .none), (it, ({ cls := .type "bytes_iterator", data := .fields #[.bytes b t, .int 0 0] } : Obj))]).map (·.1)).Nodup)
    (step : ∀ i c ti tc m₁ news₁ h tk eo io, b[i]? = some c → J i m₁ news₁ → Fr h₀ env.locals h (fun y => if y = xc then some (.int (c.toNat : Int) tc) else if y = xi then some (.int (i : Int) ti) else m₁ y) →
      News h₀ env.locals h (news₁ ++ [(e, eo), (it, io)]) → ((news₁ ++ [(e, eo), (it, io)]).map (·.1)).Nodup →
      wpC (model prog w) A (execs body env) (fun f s₃ => match f with
        | .next | .cont => ∃ h' tk' m₂ news₂, s₃ = { s with heap := h', toks := tk' } ∧ Fr h₀ env.locals h' m₂ ∧ News h₀ env.locals h' (news₂ ++ [(e, eo), (it, io)]) ∧ ((news₂ ++ [(e, eo), (it, io)]).map (·.1)).Nodup ∧ J (i + 1) m₂ news₂
        | .brk => R (.ok .next) s₃
        | .ret v => R (.ok (.ret v)) s₃) (fun _ _ => False) { s with heap := h, toks := tk })
    (done : ∀ h tk m₁ news₁, J b.size m₁ news₁ → Fr h₀ env.locals h m₁ → News h₀ env.locals h news₁ → (news₁.map (·.1)).Nodup → R (.ok .next) { s with heap := h, toks := tk }) :
    codeC (model prog w) A (.forLoop (.Tuple [.Name xi pk, .Name xc pv] x1 pt) (.ref e) body [] env) R s := by
  have hL : ∀ (n' : List (Addr × Obj)) (h : Heap) (q : List (Addr × Obj)), News h₀ env.locals h (n' ++ q) → News h₀ env.locals h n' := fun n' h q N p hp => N p (List.mem_append_left _ hp)
  have own : ∀ {n' : List (Addr × Obj)} {eo io : Obj}, ((n' ++ [(e, eo), (it, io)]).map (·.1)).Nodup → e ≠ it ∧ (n'.map (·.1)).Nodup ∧ ∀ p ∈ n', p.1 ≠ e ∧ p.1 ≠ it := fun {n' eo io} nd => by
    rw [List.map_append, List.nodup_append] at nd
    refine ⟨ne2 nd.2.1, nd.1, fun p hp => ⟨fun q => nd.2.2 _ (List.mem_map_of_mem hp) _ (.head _) q, fun q => nd.2.2 _ (List.mem_map_of_mem hp) _ (.tail _ (.head _)) q⟩⟩
  have back : ∀ {n' : List (Addr × Obj)} (eo io : Obj), e ≠ it → (n'.map (·.1)).Nodup → (∀ p ∈ n', p.1 ≠ e ∧ p.1 ≠ it) → ((n' ++ [(e, eo), (it, io)]).map (·.1)).Nodup := fun {n'} eo io h1 h2 h3 => by
    rw [List.map_append, List.nodup_append]
    refine ⟨h2, nd2 h1, fun a ha c hc q => ?_⟩
    obtain ⟨p, hp, rfl⟩ := List.mem_map.mp ha
    rcases List.mem_cons.mp hc with rfl | hc
    · exact (h3 p hp).1 q
    · rw [List.mem_singleton.mp hc] at q
      exact (h3 p hp).2 q
  obtain ⟨hne, _, _⟩ := own nd₀
  have W := WalksT.enumerateD (draws_bytes (prog := prog) (w := w) (A := A.in1) hh it b t) e hne (by simpa using hne) (by simp)
  have he₀ : h₀.get? e = none := (N₀ (e, _) (List.mem_append_right _ (.head _))).2.2
  have hi₀ : h₀.get? it = none := (N₀ (it, _) (List.mem_append_right _ (.tail _ (.head _)))).2.2
  have heL : e ≠ env.locals := (N₀ (e, _) (List.mem_append_right _ (.head _))).2.1
  have hiL : it ≠ env.locals := (N₀ (it, _) (List.mem_append_right _ (.tail _ (.head _)))).2.1
  have hLw : env.locals ∉ [e, it] := by simp [Ne.symm heL, Ne.symm hiL]
  have old : ∀ b o, h₀.get? b = some o → b ∉ [e, it] := fun b o q hb => by
    rcases List.mem_cons.mp hb with rfl | hb
    · rw [he₀] at q; cases q
    · rw [List.mem_singleton.mp hb, hi₀] at q; cases q
  refine forLoop_C (fun k s' => ∃ h' tk m' news' i, s' = { s with heap := h', toks := tk } ∧ ((∃ old, IsEnum h' e it (i : Nat) old) ∧ KBw.IsBytesIter h' it b t i) ∧ Fr h₀ env.locals h' m' ∧ News h₀ env.locals h' news' ∧ (news'.map (·.1)).Nodup ∧ (∀ p ∈ news', p.1 ≠ e ∧ p.1 ≠ it) ∧ J i m' news' ∧ i ≤ b.size ∧ k = b.size + 1 - i) ?_ (b.size + 1) ?_
  · rintro k s' ⟨H, tk, m', news', i, rfl, hst', F', N', nd', of', hJ, hi, rfl⟩
    have next : ∀ h₁ : Heap, (∀ b o, b ∉ [e, it] → H.get? b = some o → h₁.get? b = some o) → Fr h₀ env.locals h₁ m' ∧ News h₀ env.locals h₁ news' := fun h₁ hk₁ =>
      ⟨⟨F'.ns.at' fun o q => hk₁ _ o hLw q, fun b o q => hk₁ b o (old b o q) (F'.keep b o q), F'.above⟩, fun p hp => ⟨hk₁ _ _ (by simp [(of' p hp).1, (of' p hp).2]) (N' p hp).1, (N' p hp).2⟩⟩
    by_cases hlt : i < b.size
    · refine W.item i _ _ _ hlt hst' fun T vals h₁ tk₁ hPt _ hT hMid hk₁ => ?_
      obtain ⟨ti, v1, ⟨c, tc, hc, rfl⟩, rfl⟩ := hPt
      refine W.go _ x1 pt i T _ _ _ hMid fun h₂ hst₂ hk₂ => ?_
      have ht₂ : h₂.IsTuple T #[.int (i : Int) ti, .int (c.toNat : Int) tc] := hT.at fun o q => hk₂ T o (W.apart i T h₁ hMid) q
      refine wpAny_assign_Tuple hh ht₂ rfl rfl fun h₃ hx₃ => ?_
      replace hx₃ : Heap.ExtBut h₂.objs.size h₂ h₃ := hx₃
      have up₃ : ∀ b o, h₂.get? b = some o → h₃.get? b = some o := fun b o x => hx₃ b o (Nat.ne_of_lt (Heap.lt_size x)) x
      obtain ⟨F₃, N₃⟩ := next h₃ fun b o hb x => up₃ b o (hk₂ b o hb (hk₁ b o hb x))
      show wpAny _ A (do holding [.int (c.toNat : Int) tc] (assign (.Name xi pk) env (.int (i : Int) ti)); do holding [] (assign (.Name xc pv) env (.int (c.toNat : Int) tc)); pure ()) _ _ _
      refine wpAny_bind (wpAny_holding (wpAny_assign_Name (wpAny_storeName_local hxi F₃.ns (fun h₄ hn₄ hs₄ => ?_) hp)))
      replace hs₄ : Heap.SameBut env.locals h₃ h₄ := hs₄
      have F₄ := F₃.set hn₄ hs₄
      refine wpAny_bind (wpAny_holding (wpAny_assign_Name (wpAny_storeName_local hxc F₄.ns (fun h₅ hn₅ hs₅ => wpAny_pure ?_) hp)))
      replace hs₅ : Heap.SameBut env.locals h₄ h₅ := hs₅
      have F₅ := F₄.set hn₅ hs₅
      have N₅ : News h₀ env.locals h₅ news' := (N₃.set hs₄).set hs₅
      have hst₅ : (∃ old, IsEnum h₅ e it ((i + 1 : Nat) : Int) old) ∧ KBw.IsBytesIter h₅ it b t (i + 1) := W.frame _ _ _ hst₂ fun b hb o q => hs₅.extBut b o (fun q' => hLw (q' ▸ hb)) (hs₄.extBut b o (fun q' => hLw (q' ▸ hb)) (up₃ b o q))
      obtain ⟨⟨ol, hE⟩, ⟨io, hio, hcl, hda⟩⟩ := hst₅
      have N₆ : News h₀ env.locals h₅ (news' ++ [(e, enumObj it .none (rawInt ((i + 1 : Nat) : Int)) ol), (it, io)]) := fun p hp => by
        rcases List.mem_append.mp hp with hp | hp
        · exact N₅ p hp
        · rcases List.mem_cons.mp hp with rfl | hp
          · exact ⟨hE, heL, he₀⟩
          · rw [List.mem_singleton.mp hp]
            exact ⟨hio, hiL, hi₀⟩
      refine wpC_mono (step i c ti tc m' news' h₅ _ (enumObj it .none (rawInt ((i + 1 : Nat) : Int)) ol) io hc hJ F₅ N₆ (back _ _ hne nd' of')) (fun f s₃ h₆ => ?_) fun _ _ x => x
      · have fin : (∃ h' tk' m₂ news₂, s₃ = { s with heap := h', toks := tk' } ∧ Fr h₀ env.locals h' m₂ ∧ News h₀ env.locals h' (news₂ ++ [(e, enumObj it .none (rawInt ((i + 1 : Nat) : Int)) ol), (it, io)]) ∧ ((news₂ ++ [(e, enumObj it .none (rawInt ((i + 1 : Nat) : Int)) ol), (it, io)]).map (·.1)).Nodup ∧ J (i + 1) m₂ news₂) → ∃ m, m < b.size + 1 - i ∧ ∃ h' tk m' news' i, s₃ = { s with heap := h', toks := tk } ∧ ((∃ old, IsEnum h' e it (i : Nat) old) ∧ KBw.IsBytesIter h' it b t i) ∧ Fr h₀ env.locals h' m' ∧ News h₀ env.locals h' news' ∧ (news'.map (·.1)).Nodup ∧ (∀ p ∈ news', p.1 ≠ e ∧ p.1 ≠ it) ∧ J i m' news' ∧ i ≤ b.size ∧ m = b.size + 1 - i := by
          rintro ⟨h₆', tk₆, m₂, news₂, rfl, F₆, N₆, nd₆, hJ₆⟩
          obtain ⟨_, o1, o2⟩ := own nd₆
          exact ⟨b.size + 1 - (i + 1), by lia, h₆', tk₆, m₂, news₂, i + 1, rfl, ⟨⟨_, (N₆ (e, _) (List.mem_append_right _ (.head _))).1⟩, ⟨io, (N₆ (it, io) (List.mem_append_right _ (.tail _ (.head _)))).1, hcl, hda⟩⟩, F₆, hL _ _ _ N₆, o1, o2, hJ₆, hlt, rfl⟩
        cases f with
        | ret v => exact h₆
        | brk => exact h₆
        | cont => exact fin h₆
        | next => exact fin h₆
    · obtain rfl : i = b.size := by lia
      refine W.done _ _ _ hst' fun h₁ tk₁ hk₁ => ?_
      obtain ⟨F₁, N₁⟩ := next h₁ hk₁
      exact done h₁ tk₁ m' news' hJ F₁ N₁ nd'
  · obtain ⟨_, o1, o2⟩ := own nd₀
    exact ⟨s.heap, s.toks, m, news, 0, rfl, ⟨⟨_, (N₀ (e, _) (List.mem_append_right _ (.head _))).1⟩, ⟨_, (N₀ (it, _) (List.mem_append_right _ (.tail _ (.head _)))).1, rfl, rfl⟩⟩, F₀, hL _ _ _ N₀, o1, o2, h0, Nat.zero_le _, rfl⟩
end
end
section
section
variable {prog : Program} {w : World} {A : Around} {E : Value → Shared → Prop} {s : Shared}
theorem un3 {e : Nat} {eo : Obj} {rest : List (Addr × Obj)} {a b c : Nat} (h : OwnOff ((e, eo) :: rest) [a, b, c]) : e ≠ a ∧ e ≠ b ∧ e ≠ c ∧ OwnOff rest [a, b, c] :=
  ⟨h (e, eo) (.head _) a (.head _), h (e, eo) (.head _) b (.tail _ (.head _)), h (e, eo) (.head _) c (.tail _ (.tail _ (.head _))), fun p hp => h p (.tail _ hp)⟩
theorem un4 {e : Nat} {eo : Obj} {rest : List (Addr × Obj)} {a b c d : Nat} (h : OwnOff ((e, eo) :: rest) [a, b, c, d]) : e ≠ a ∧ e ≠ b ∧ e ≠ c ∧ e ≠ d ∧ OwnOff rest [a, b, c, d] :=
  ⟨h (e, eo) (.head _) a (.head _), h (e, eo) (.head _) b (.tail _ (.head _)), h (e, eo) (.head _) c (.tail _ (.tail _ (.head _))), h (e, eo) (.head _) d (.tail _ (.tail _ (.tail _ (.head _)))), fun p hp => h p (.tail _ hp)⟩
theorem mid3 {h₀ h : Heap} {L : Addr} {x d o e i : Addr × Obj} {l : List (Addr × Obj)} (N : News h₀ L h (x :: d :: o :: e :: i :: l)) : News h₀ L h ([x, d, o] ++ l) := by
  intro y hy
  refine N y ?_
  simp only [List.cons_append, List.nil_append, List.mem_cons] at hy ⊢
  rcases hy with h | h | h | h <;> simp only [h, true_or, or_true]
theorem mid4 {h₀ h : Heap} {L : Addr} {x d o q e i : Addr × Obj} {l : List (Addr × Obj)} (N : News h₀ L h (x :: d :: o :: q :: e :: i :: l)) : News h₀ L h ([x, d, o, q] ++ l) := by
  intro y hy
  refine N y ?_
  simp only [List.cons_append, List.nil_append, List.mem_cons] at hy ⊢
  rcases hy with h | h | h | h | h <;> simp only [h, true_or, or_true]
theorem midNodup {l₁ rest : List (Addr × Obj)} {e i : Addr × Obj} (h : ((l₁ ++ e :: i :: rest).map (·.1)).Nodup) : ((l₁ ++ rest).map (·.1)).Nodup := by
  refine List.Nodup.sublist (List.Sublist.map _ (List.Sublist.append_left (List.Sublist.cons _ (List.Sublist.cons _ (List.Sublist.refl _))) _)) h
theorem drop_at {b : Array UInt8} {i : Nat} {c : UInt8} (h : b[i]? = some c) : b.toList.drop i = c :: b.toList.drop (i + 1) := by
  obtain ⟨hi, rfl⟩ := Array.getElem?_eq_some_iff.mp h
  rw [List.drop_eq_getElem_cons (by simpa using hi)]
  simp
/-- what a turn must leave behind, kept whole -/
def TurnBack (P : Prop) : Prop := P
/-- octets cut out of bytes -/
theorem slice_bytes {value slice : Expr} {b : Array UInt8} {t : Tok} {h₀ : Heap} {L : Addr} {m : Str → Option Value} {news : List (Addr × Obj)} {l u : Value} {lo hi : Option Int} {Q : Value → Shared → Prop}
    (hF : Fr h₀ L s.heap m) (hN : News h₀ L s.heap news) (hl : IsPart l lo) (hu : IsPart u hi) (hz : b.size ≤ 16777216)
    (h : ∀ h' t' k p, Fr h₀ L h' m → News h₀ L h' news → p = KBy.picked b lo hi → p.size ≤ b.size → Q (.bytes p t') { s with heap := h', toks := k })
    (hs : subscripted slice false (.bytes b t) (.ref s.heap.objs.size) = operate [.ref s.heap.objs.size, .bytes b t] (getItem (.bytes b t) (.ref s.heap.objs.size)) := by with_unfolding_all rfl)
    (ht : ∀ r, letTemporaryGo value (.bytes b t) r = pure () := by intro _; with_unfolding_all rfl) :
    wpAny (model prog w) A (subscriptTail value slice (.bytes b t) (.ref s.heap.objs.size)) Q E { s with heap := s.heap.push { cls := .type "slice", data := .fields #[l, u, .none] } } :=
  KBc.slice_K hF hN rfl hl hu (by rw [KBw.ints_length]; exact hz) (fun h' t' k F N _ => h h' t' k _ F N rfl (KBc.size_picked_le b lo hi)) hs ht
theorem picked_from {b : Array UInt8} {i : Nat} (h : i ≤ b.size) : KBy.picked b (some (i : Int)) none = (b.toList.drop i).toArray := by
  rw [KBc.picked_eq]
  simp only [Option.elim, clipAt_nat]
  rw [Nat.min_eq_left h, List.take_of_length_le (by simp)]
theorem bindsBack {m : Str → Option Value} {xi xc : Str} : (fun y => if y = xc then m xc else if y = xi then m xi else m y) = m := by
  funext y
  by_cases h1 : y = xc
  · simp [h1]
  · by_cases h2 : y = xi
    · subst h2; simp [h1]
    · simp [h1, h2]
theorem bindsOver {m : Str → Option Value} {xi xc : Str} {a b c d : Option Value} : (fun y => if y = xc then a else if y = xi then b else (fun y => if y = xc then c else if y = xi then d else m y) y) = fun y => if y = xc then a else if y = xi then b else m y := by
  funext y
  by_cases h1 : y = xc
  · simp [h1]
  · by_cases h2 : y = xi
    · subst h2; simp [h1]
    · simp [h1, h2]
/-- the same, the names of the turn told -/
theorem forEnum_CM {R : Result → Shared → Prop} {env : Env} {h₀ : Heap} {xi xc : Str} {pk pv pt : Pos} {x1 : Nat} {body : List Stmt} {b : Array UInt8} {t : Tok} {e it : Addr} {m : Str → Option Value} {l₀ rest : List (Addr × Obj)} (hh : A.handled = none)
    (hxi : env.kindOf xi = some .local) (hxc : env.kindOf xc = some .local)
    (hp : (env.scope.kind == .class || (env.scope.kind == .module && env.locals != env.globals)) = false)
    (J : Nat → List (Addr × Obj) → Prop) (h0 : J 0 l₀)
    (F₀ : Fr h₀ env.locals s.heap m) (N₀ : News h₀ env.locals s.heap ((e, enumObj it .none (rawInt 0) .none) :: (it, { cls := .type "bytes_iterator", data := .fields #[.bytes b t, .int 0 0] }) :: (l₀ ++ rest)))
    (nd₀ : ((l₀ ++ rest).map (·.1)).Nodup) (l1 : ∀ p ∈ l₀ ++ rest, p.1 < it) (l2 : it < e)
    (step : ∀ i c ti tc l₁ h tk eo io, b[i]? = some c → J i l₁ → Fr h₀ env.locals h (fun y => if y = xc then some (.int (c.toNat : Int) tc) else if y = xi then some (.int (i : Int) ti) else m y) →
      News h₀ env.locals h (l₁ ++ (e, eo) :: (it, io) :: rest) → ((l₁ ++ (e, eo) :: (it, io) :: rest).map (·.1)).Nodup →
      wpC (model prog w) A (execs body env) (fun f s₃ => match f with
        | .next | .cont => TurnBack (∃ h' tk' l₂ ua ub, s₃ = { s with heap := h', toks := tk' } ∧ Fr h₀ env.locals h' (fun y => if y = xc then ub else if y = xi then ua else m y) ∧ News h₀ env.locals h' (l₂ ++ (e, eo) :: (it, io) :: rest) ∧ ((l₂ ++ (e, eo) :: (it, io) :: rest).map (·.1)).Nodup ∧ J (i + 1) l₂)
        | .brk => R (.ok .next) s₃
        | .ret v => R (.ok (.ret v)) s₃) (fun _ _ => False) { s with heap := h, toks := tk })
    (done : ∀ h tk l₁ ua ub, J b.size l₁ → Fr h₀ env.locals h (fun y => if y = xc then ub else if y = xi then ua else m y) → News h₀ env.locals h (l₁ ++ rest) → ((l₁ ++ rest).map (·.1)).Nodup → R (.ok .next) { s with heap := h, toks := tk }) :
    codeC (model prog w) A (.forLoop (.Tuple [.Name xi pk, .Name xc pv] x1 pt) (.ref e) body [] env) R s := by
  have pm : ∀ (l : List (Addr × Obj)) (eo io : Obj), List.Perm ((l ++ rest) ++ [(e, eo), (it, io)]) (l ++ (e, eo) :: (it, io) :: rest) := fun l eo io => by
    rw [List.append_assoc]
    exact List.Perm.append_left l (List.perm_append_comm (l₁ := rest) (l₂ := [(e, eo), (it, io)]))
  have pN : ∀ {h : Heap} {n n' : List (Addr × Obj)}, List.Perm n n' → News h₀ env.locals h n → News h₀ env.locals h n' := fun p N q hq => N q (p.symm.subset hq)
  have pD : ∀ {n n' : List (Addr × Obj)}, List.Perm n n' → (n.map (·.1)).Nodup → (n'.map (·.1)).Nodup := fun p d => (p.map _).nodup_iff.mp d
  refine forEnum_C (b := b) (t := t) (it := it) (m := m) (news := l₀ ++ rest) hh hxi hxc hp (fun i m₁ n => ∃ l₁ ua ub, n = l₁ ++ rest ∧ m₁ = (fun y => if y = xc then ub else if y = xi then ua else m y) ∧ J i l₁) ⟨l₀, m xi, m xc, rfl, bindsBack.symm, h0⟩ F₀ (pN (List.perm_append_comm (l₁ := [_, _]) (l₂ := l₀ ++ rest)) N₀) ?_ ?_ ?_
  · rw [List.map_append, List.nodup_append]
    refine ⟨nd₀, nd2 (Nat.ne_of_gt l2), fun a ha c hc q => ?_⟩
    obtain ⟨p, hp, rfl⟩ := List.mem_map.mp ha
    rcases List.mem_cons.mp hc with rfl | hc
    · exact Nat.lt_irrefl _ (Nat.lt_trans (q ▸ l1 p hp) l2)
    · rw [List.mem_singleton.mp hc] at q
      exact Nat.lt_irrefl _ (q ▸ l1 p hp)
  · rintro i c ti tc m₁ news₁ h tk eo io hc ⟨l₁, ua, ub, rfl, rfl, hJ⟩ F₁ N₁ d₁
    rw [bindsOver] at F₁
    refine wpC_mono (step i c ti tc l₁ h tk eo io hc hJ F₁ (pN (pm _ _ _) N₁) (pD (pm _ _ _) d₁)) (fun f s₃ h₃ => ?_) fun _ _ x => x
    have fin : (∃ h' tk' l₂ ua ub, s₃ = { s with heap := h', toks := tk' } ∧ Fr h₀ env.locals h' (fun y => if y = xc then ub else if y = xi then ua else m y) ∧ News h₀ env.locals h' (l₂ ++ (e, eo) :: (it, io) :: rest) ∧ ((l₂ ++ (e, eo) :: (it, io) :: rest).map (·.1)).Nodup ∧ J (i + 1) l₂) →
        ∃ h' tk' m₂ news₂, s₃ = { s with heap := h', toks := tk' } ∧ Fr h₀ env.locals h' m₂ ∧ News h₀ env.locals h' (news₂ ++ [(e, eo), (it, io)]) ∧ ((news₂ ++ [(e, eo), (it, io)]).map (·.1)).Nodup ∧ ∃ l₁ ua ub, news₂ = l₁ ++ rest ∧ m₂ = (fun y => if y = xc then ub else if y = xi then ua else m y) ∧ J (i + 1) l₁ := by
      rintro ⟨h', tk', l₂, ua, ub, rfl, F₂, N₂, d₂, hJ₂⟩
      exact ⟨h', tk', _, l₂ ++ rest, rfl, F₂, pN (pm _ _ _).symm N₂, pD (pm _ _ _).symm d₂, l₂, ua, ub, rfl, rfl, hJ₂⟩
    cases f with
    | ret v => exact h₃
    | brk => exact h₃
    | cont => exact fin h₃
    | next => exact fin h₃
  · rintro h tk m₁ news₁ ⟨l₁, ua, ub, rfl, rfl, hJ⟩ F₁ N₁ d₁
    exact done h tk l₁ ua ub hJ F₁ N₁ d₁
end
end
local macro_rules | `(tactic| walk_at "subscriptTail") => `(tactic| (k_here; (with_reducible show wpAny _ _ (subscriptTail _ (Expr.Slice _ _ none _) (Value.bytes _ _) (Value.ref _)) _ _ _); (with_reducible rename Fr _ _ _ _ => F9); (with_reducible rename News _ _ _ _ => N9); (refine' slice_bytes (s := ⟨_, _, _, _, _⟩) F9 N9 ?c1 ?c2 ?z ?_; (case c1 => constructor); (case c2 => constructor); (case z => walk_at "szs")); intro h' t' k' p' F' N' q' z'; (try k_sweep)))
local macro_rules | `(tactic| walk_at "binaryOp Add bytes bytes") => `(tactic| (k_here; (with_reducible show wpAny _ _ (binaryOp Operator.Add (Value.bytes _ _) (Value.bytes _ _)) _ _ _); (refine KBy.add_bytes (by walk_at "szs") ?_); intro _ _))
section
theorem begins_D8 : True := by
  w_top off
  exact trivial
def Dec.run : Dec → List UInt8 → Dec
  | st, [] => st
  | st, c :: r => if st.done then { st with left := st.left ++ (c :: r).toArray } else Dec.run (st.take c.toNat) r
theorem Dec.take_size {st : Dec} {n : Int} (hm : st.many ≤ 128) : (st.take n).out.size ≤ st.out.size + 128 := by
  unfold Dec.take
  repeat' split
  all_goals (simp only [Array.size_push, Array.size_append, byteArr_size, List.length_replicate]; lia)
theorem Dec.take_many {st : Dec} {n : Int} (hm : st.many ≤ 128) : (st.take n).many ≤ 128 := by
  unfold Dec.take
  repeat' split
  all_goals (dsimp only; lia)
theorem Dec.take_left {st : Dec} {n : Int} : (st.take n).left = st.left := by
  unfold Dec.take
  repeat' split
  all_goals rfl
theorem dec_takeX (w : World) {x dx o : Addr} {k1 k2 k3 k4 k5 t2 t4 t5 : Tok} {dn : Bool} {lf out : Array UInt8} {pl mn : Int} {n : Int} {tb : Tok} (h0 : 0 ≤ n) (h1 : n < 256) (hz : out.size + 256 ≤ 16777216) (hm : mn ≤ 128) :
    Ctr w 2 124 [.ref x, .int n tb] [(x, instObj 134 dx), (dx, decL w.params k1 k2 k3 k4 k5 t2 t4 t5 dn lf o pl mn), (o, baObj out)] (fun v l' => v = .none ∧ DecAt w.params x (Dec.take ⟨dn, lf, out, pl, mn⟩ n) l') :=
  dec_take w (st := ⟨dn, lf, out, pl, mn⟩) decAt_of h0 h1 hz hm
theorem dec_feed (w : World) {x dx o : Addr} {zt : DTok} {dn : Bool} {lf out : Array UInt8} {pl mn : Int} {b : Array UInt8} {tb : Tok} (hm : mn ≤ 128) (hz : out.size + 128 * b.size + 256 ≤ 16777216) (hlf : lf.size + b.size ≤ 16777216) :
    Ctr w 3 68 [.ref x, .bytes b tb] [(x, instObj 134 dx), (dx, decD w.params zt dn lf o pl mn), (o, baObj out)] (fun v l' => (∃ t, v = .bytes (Dec.run ⟨dn, lf, out, pl, mn⟩ b.toList).out t) ∧ DecAt w.params x { Dec.run ⟨dn, lf, out, pl, mn⟩ b.toList with out := #[] } l') := by
  intro A A₀ base h₀ outer L m mg mb env pg loose mean rest s R B F X₀ LD T hA hf hke hh hd hu ret
  obtain ⟨N, nd⟩ := LD
  ((rename List.Nodup _ => nd9; have e1 := ownOff_of nd9; have e2 := nodup_rest nd9; have e3 := nodup_own nd9; simp only [List.map_cons, List.map_nil] at e1 e3; obtain ⟨_, _, _⟩ := ne3 e3; clear e3))
  simp only [List.cons_append, List.nil_append] at N
  revert X₀; k_fill; intro X₀
  refine' def_C (binds := [(Str.ofString "self", .ref x), (Str.ofString "octets", .bytes b tb)]) B F X₀ N T hA hf hke ?k6 ?k7 ?k8 ?k9 ?kB ?_ ?c2 ?c3 ?c4 ?c5
  (( (case k6 => k_is); (case k7 => k_is); (case k8 => walk_at "om"); (case k9 => first | exact BindsTo.of_eq rfl | exact binds_K (by k_in) rfl (by k_is) rfl rfl rfl | fail "enter: no rule for these arguments"); (case c5 => decide); (case kB => exact locs rfl); (case c2 => exact rfl); (case c3 => exact rfl); (case c4 => exact rfl)))
  intro g' L' h' FG' F' N' B' X' T' l1
  clear F N FG'
  (repeat' (first | (k_unfold; (try dsimp only)) | (first | (with_reducible first | ((show (_ : Flow → Shared → Prop) _ _); rename Flow → Shared → Prop => K9; rename KR K9 _ => kr9; rename KN K9 _ => kn9; (first | refine kn9 _ ?_ | refine kr9.ret _ _ ?_ | refine kr9.brk _ ?_ | refine kr9.cont _ ?_); clear kn9 kr9 K9; (try dsimp only)) | ((show (_ : Flow → Shared → Prop) _ _); (first | refine kn_go (by assumption) ?_ | refine kr_go (by assumption) ?_); (try dsimp only)) | ((show (_ : Bool → Shared → Prop) _ _); rename Bool → Shared → Prop => K9; rename KT K9 _ => kb9; refine kb9 _ _ ?_; clear kb9 K9; (try dsimp only)))) | ((with_reducible show wpC _ _ _ _ _ _); (first | ((with_reducible show wpC _ _ (call (Value.type "enumerate") _ _) _ _ _); (refine wpC_any (call_enum_bytes (by assumption) (by assumption) ?_)); intro _ _ _ _ _ _ _; (try k_sweep); (refine wpAny_pyIter_enum (News.get (by assumption) (.head _)) ?_)) | ((with_reducible show wpC _ _ (exec (Stmt.For _ _ _ _ _) _) _ _ _); (refine exec_For_C ?_)) | (((with_reducible show wpC _ _ (execs (_ :: _) _) _ _ _); refine execs_cons_G ?_; intro _ _ _)) | (((with_reducible show wpC _ _ (eval (Expr.Call (Expr.Name _ _) _ _ _) _) _ _ _); refine eval_CallName_C ?_)) | (((with_reducible show wpC _ _ (callWith _ (Value.type _) _ _ _) _ _ _); first | refine callWith_CT0 ?_ | refine callWith_CT (wpC_any ?_))))) | (dsimp only; (with_reducible show wpC _ _ _ _ _ _)) | ((fail_if_success (with_reducible show wpC _ _ _ _ _ _)); (first | walk1 | (dsimp only; walk1)))))
  refine' forEnum_CM (l₀ := [(x, _), (dx, _), (o, _)]) (rest := rest) hh rfl rfl rfl
    (fun i l₁ => ∃ st', DecAt w.params x st' l₁ ∧ Dec.run st' (b.toList.drop i) = Dec.run ⟨dn, lf, out, pl, mn⟩ b.toList ∧ st'.out.size ≤ out.size + 128 * i ∧ st'.many ≤ 128 ∧ st'.left = lf) ?h0 (by k_asm) (by k_asm) ?nd ?l1 ?l2 ?step ?done
  case nd => (first | assumption | (refine nodup_join ?zqna ?zqnb ?zqnc; (case zqna => (simp only [List.map_cons, List.map_nil]; first | (simp only [List.nodup_cons, List.not_mem_nil, not_false_eq_true, List.nodup_nil, and_self]; done) | (refine nd2 ?_ <;> k_ne) | (refine nd3 ?_ ?_ ?_ <;> k_ne) | (refine nd4 ?_ ?_ ?_ ?_ ?_ ?_ <;> k_ne))); (case zqnb => (simp only [List.map_cons, List.map_nil]; walk_at "off")); (case zqnc => assumption)) | fail "nodup")
  case l1 => assumption
  case l2 => assumption
  case h0 => exact ⟨⟨dn, lf, out, pl, mn⟩, decAt_of, rfl, Nat.le_refl _, hm, rfl⟩
  case step =>
    rintro i c ti tc l₁ h tk eo io hc ⟨⟨dn1, lf1, out1, pl1, mn1⟩, ⟨dx1, o1, k1', rfl⟩, hr, hz1, hm1, hl1⟩ F₅ N₅ d₅
    have hlt : i < b.size := by
      rcases Nat.lt_or_ge i b.size with q | q
      · exact q
      · rw [Array.getElem?_eq_none q] at hc; cases hc
    have hc1 := c.toNat_lt
    dsimp only at hz1 hm1 hl1; subst hl1
    simp only [List.cons_append, List.nil_append] at N₅
    have e1 := ownOff_of d₅
    have e2 := nodup_rest d₅
    have e3 := nodup_own d₅
    simp only [List.map_cons, List.map_nil] at e1 e3
    obtain ⟨_, _, _⟩ := ne3 e3
    clear e3
    obtain ⟨_, _, _, o8⟩ := un3 e1
    obtain ⟨_, _, _, o7⟩ := un3 o8
    have hb9 : b.size ≤ 16777216 := by lia
    replace F₅ : Fr g' L' h _ := F₅
    replace N₅ : News g' L' h _ := N₅
    (repeat' (first | (k_unfold; (try dsimp only)) | (first | (with_reducible first | ((show (_ : Flow → Shared → Prop) _ _); rename Flow → Shared → Prop => K9; rename KR K9 _ => kr9; rename KN K9 _ => kn9; (first | refine kn9 _ ?_ | refine kr9.ret _ _ ?_ | refine kr9.brk _ ?_ | refine kr9.cont _ ?_); clear kn9 kr9 K9; (try dsimp only)) | ((show (_ : Flow → Shared → Prop) _ _); (first | refine kn_go (by assumption) ?_ | refine kr_go (by assumption) ?_); (try dsimp only)) | ((show (_ : Bool → Shared → Prop) _ _); rename Bool → Shared → Prop => K9; rename KT K9 _ => kb9; refine kb9 _ _ ?_; clear kb9 K9; (try dsimp only)))) | ((with_reducible show wpC _ _ _ _ _ _); (first | ((with_reducible show wpC _ _ (call (Value.ref 82) _ _) _ _ _); (try dsimp only); (refine' use_decB (dec_toldT _ ?zqh2) ?zqF ?zqN ?zqnd ?zqB ?zqX ?zqT ?zqA ?zqf ?zqk ?zqh ?zqd ?zqu ?_; (((case zqF => k_asm); (case zqN => (first | k_asm | (refine' drop1 ?zqn9; (case zqn9 => k_asm)) | (refine' drop2 ?zqn9; (case zqn9 => k_asm)) | (refine' drop3 ?zqn9; (case zqn9 => k_asm)) | (refine' drop4 ?zqn9; (case zqn9 => k_asm)))); (case zqnd => (first | assumption | (refine nodup_join ?zqna ?zqnb ?zqnc; (case zqna => (simp only [List.map_cons, List.map_nil]; first | (simp only [List.nodup_cons, List.not_mem_nil, not_false_eq_true, List.nodup_nil, and_self]; done) | (refine nd2 ?_ <;> k_ne) | (refine nd3 ?_ ?_ ?_ <;> k_ne) | (refine nd4 ?_ ?_ ?_ ?_ ?_ ?_ <;> k_ne))); (case zqnb => (simp only [List.map_cons, List.map_nil]; walk_at "off")); (case zqnc => assumption)) | fail "nodup")); (case zqB => k_asm); (case zqX => k_asm); (case zqT => k_asm); (case zqA => k_asm); (case zqf => exact rfl); (case zqk => exact rfl); (case zqh => assumption); (case zqd => (first | exact room2 (by assumption) (by decide) | exact room3 (by assumption) (by decide) | walk_at "om")); (case zqu => (first | exact room2 (by assumption) (by decide) | exact room3 (by assumption) (by decide) | walk_at "om")))); (case zqh2 => walk_at "szs")); intro _ _ _ _ _ _ _ _ _ _ _ _ _ _; (try k_sweep); dsimp only) | ((with_reducible show wpC _ _ (call (Value.ref 124) _ _) _ _ _); (try dsimp only); (refine' use_decN (dec_takeX _ ?zqh1 ?zqh2 ?zqh3 ?zqh4) ?zqF ?zqN ?zqnd ?zqB ?zqX ?zqT ?zqA ?zqf ?zqk ?zqh ?zqd ?zqu ?_; (((case zqF => k_asm); (case zqN => (first | k_asm | (refine' drop1 ?zqn9; (case zqn9 => k_asm)) | (refine' drop2 ?zqn9; (case zqn9 => k_asm)) | (refine' drop3 ?zqn9; (case zqn9 => k_asm)) | (refine' drop4 ?zqn9; (case zqn9 => k_asm)))); (case zqnd => (first | assumption | (refine nodup_join ?zqna ?zqnb ?zqnc; (case zqna => (simp only [List.map_cons, List.map_nil]; first | (simp only [List.nodup_cons, List.not_mem_nil, not_false_eq_true, List.nodup_nil, and_self]; done) | (refine nd2 ?_ <;> k_ne) | (refine nd3 ?_ ?_ ?_ <;> k_ne) | (refine nd4 ?_ ?_ ?_ ?_ ?_ ?_ <;> k_ne))); (case zqnb => (simp only [List.map_cons, List.map_nil]; walk_at "off")); (case zqnc => assumption)) | fail "nodup")); (case zqB => k_asm); (case zqX => k_asm); (case zqT => k_asm); (case zqA => k_asm); (case zqf => exact rfl); (case zqk => exact rfl); (case zqh => assumption); (case zqd => (first | exact room2 (by assumption) (by decide) | exact room3 (by assumption) (by decide) | walk_at "om")); (case zqu => (first | exact room2 (by assumption) (by decide) | exact room3 (by assumption) (by decide) | walk_at "om")))); (case zqh1 => walk_at "om"); (case zqh2 => walk_at "om"); (case zqh3 => walk_at "szs"); (case zqh4 => walk_at "om")); intro _ _ _ _ _ _ _ _ _ _ _ _ _; (try k_sweep); dsimp only) | (((with_reducible show wpC _ _ (execs (_ :: _) _) _ _ _); refine execs_cons_G ?_; intro _ _ _)) | (((with_reducible show wpC _ _ (execs [] _) _ _ _); refine execs_nil_C ?_)) | (((with_reducible show wpC _ _ (exec (Stmt.If _ _ _ _) _) _ _ _); refine exec_If_G ?_; intro _ _)) | (((with_reducible show wpC _ _ (exec (Stmt.Expr _ _) _) _ _ _); refine exec_Expr_C ?_)) | (((with_reducible show wpC _ _ (exec (Stmt.Return (some (Expr.Call _ _ _ _)) _) _) _ _ _); refine exec_Return_C ?_)) | (((with_reducible show wpC _ _ (exec _ _) _ _ _); refine wpC_any ?_)) | (((with_reducible show wpC _ _ (eval (Expr.Call (Expr.Attribute _ _ _) _ _ _) _) _ _ _); refine eval_CallMeth_C ?_)) | (((with_reducible show wpC _ _ (callWith _ (Value.ref _) _ _ _) _ _ _); first | (refine' callWith_CK0 ?zqk1 ?zqk2 ?_; (case zqk1 => k_in); (case zqk2 => k_is)) | (refine' callWith_CK ?zqk1 ?zqk2 ?_; (case zqk1 => k_asm); (case zqk2 => k_is)))))) | (dsimp only; (with_reducible show wpC _ _ _ _ _ _)) | ((fail_if_success (with_reducible show wpC _ _ _ _ _ _)); (first | walk1 | (dsimp only; walk1)))))
    all_goals walk_at "ands"
    · rename dn1 = true => q9
      subst q9
      rename _ = KBy.picked _ _ _ => q8
      rw [picked_from (Nat.le_of_lt hlt)] at q8
      subst q8
      have hr' : (⟨true, lf1 ++ (b.toList.drop i).toArray, out1, pl1, mn1⟩ : Dec) = Dec.run ⟨dn, lf1, out, pl, mn⟩ b.toList := by
        rw [← hr, drop_at hc]
        rfl
      rw [← hr'] at ret
      refine' ret (.bytes out1 _) _ _ [(x, _), (_, _), (_, _)] ?a ?b ?c ⟨⟨_, rfl⟩, ?d⟩
      case a => k_asm
      case b => refine' mid3 ?n; (case n => k_asm)
      case c => refine' midNodup (e := (_, eo)) (i := (_, io)) ?n; (case n => assumption)
      case d => exact decAt_of
    · rename dn1 = false => q9
      subst q9
      refine' ⟨_, _, [(x, _), (_, _), (_, _)], _, _, rfl, ?a, ?b, ?c, Dec.take ⟨false, lf1, out1, pl1, mn1⟩ c.toNat, ?d, ?e, ?f, ?g, ?h⟩
      case a => k_asm
      case b => k_asm
      case c => assumption
      case d => exact decAt_of
      case e => rw [← hr, drop_at hc]; rfl
      case f => exact Nat.le_trans (Dec.take_size hm1) (by dsimp only; lia)
      case g => exact Dec.take_many hm1
      case h => exact Dec.take_left
  case done =>
    rintro h tk l₁ ua ub ⟨⟨dn1, lf1, out1, pl1, mn1⟩, ⟨dx1, o1, k1', rfl⟩, hr, hz1, hm1, hl1⟩ F₅ N₅ d₅
    dsimp only at hz1 hm1 hl1; subst hl1
    simp only [List.cons_append, List.nil_append] at N₅
    have e1 := ownOff_of d₅
    have e2 := nodup_rest d₅
    have e3 := nodup_own d₅
    simp only [List.map_cons, List.map_nil] at e1 e3
    obtain ⟨_, _, _⟩ := ne3 e3
    clear e3
    replace F₅ : Fr g' L' h _ := F₅
    replace N₅ : News g' L' h _ := N₅
    dsimp only
    (repeat' (first | (k_unfold; (try dsimp only)) | (first | (with_reducible first | ((show (_ : Flow → Shared → Prop) _ _); rename Flow → Shared → Prop => K9; rename KR K9 _ => kr9; rename KN K9 _ => kn9; (first | refine kn9 _ ?_ | refine kr9.ret _ _ ?_ | refine kr9.brk _ ?_ | refine kr9.cont _ ?_); clear kn9 kr9 K9; (try dsimp only)) | ((show (_ : Flow → Shared → Prop) _ _); (first | refine kn_go (by assumption) ?_ | refine kr_go (by assumption) ?_); (try dsimp only)) | ((show (_ : Bool → Shared → Prop) _ _); rename Bool → Shared → Prop => K9; rename KT K9 _ => kb9; refine kb9 _ _ ?_; clear kb9 K9; (try dsimp only)))) | ((with_reducible show wpC _ _ _ _ _ _); (first | ((with_reducible show wpC _ _ (call (Value.ref 82) _ _) _ _ _); (try dsimp only); (refine' use_decB (dec_toldT _ ?zqh2) ?zqF ?zqN ?zqnd ?zqB ?zqX ?zqT ?zqA ?zqf ?zqk ?zqh ?zqd ?zqu ?_; (((case zqF => k_asm); (case zqN => (first | k_asm | (refine' drop1 ?zqn9; (case zqn9 => k_asm)) | (refine' drop2 ?zqn9; (case zqn9 => k_asm)) | (refine' drop3 ?zqn9; (case zqn9 => k_asm)) | (refine' drop4 ?zqn9; (case zqn9 => k_asm)))); (case zqnd => (first | assumption | (refine nodup_join ?zqna ?zqnb ?zqnc; (case zqna => (simp only [List.map_cons, List.map_nil]; first | (simp only [List.nodup_cons, List.not_mem_nil, not_false_eq_true, List.nodup_nil, and_self]; done) | (refine nd2 ?_ <;> k_ne) | (refine nd3 ?_ ?_ ?_ <;> k_ne) | (refine nd4 ?_ ?_ ?_ ?_ ?_ ?_ <;> k_ne))); (case zqnb => (simp only [List.map_cons, List.map_nil]; walk_at "off")); (case zqnc => assumption)) | fail "nodup")); (case zqB => k_asm); (case zqX => k_asm); (case zqT => k_asm); (case zqA => k_asm); (case zqf => exact rfl); (case zqk => exact rfl); (case zqh => assumption); (case zqd => (first | exact room2 (by assumption) (by decide) | exact room3 (by assumption) (by decide) | walk_at "om")); (case zqu => (first | exact room2 (by assumption) (by decide) | exact room3 (by assumption) (by decide) | walk_at "om")))); (case zqh2 => walk_at "szs")); intro _ _ _ _ _ _ _ _ _ _ _ _ _ _; (try k_sweep); dsimp only) | (((with_reducible show wpC _ _ (execs (_ :: _) _) _ _ _); refine execs_cons_G ?_; intro _ _ _)) | (((with_reducible show wpC _ _ (exec (Stmt.Return (some (Expr.Call _ _ _ _)) _) _) _ _ _); refine exec_Return_C ?_)) | (((with_reducible show wpC _ _ (eval (Expr.Call (Expr.Attribute _ _ _) _ _ _) _) _ _ _); refine eval_CallMeth_C ?_)) | (((with_reducible show wpC _ _ (callWith _ (Value.ref _) _ _ _) _ _ _); first | (refine' callWith_CK0 ?zqk1 ?zqk2 ?_; (case zqk1 => k_in); (case zqk2 => k_is)) | (refine' callWith_CK ?zqk1 ?zqk2 ?_; (case zqk1 => k_asm); (case zqk2 => k_is)))))) | (dsimp only; (with_reducible show wpC _ _ _ _ _ _)) | ((fail_if_success (with_reducible show wpC _ _ _ _ _ _)); (first | walk1 | (dsimp only; walk1)))))
    rw [List.drop_eq_nil_of_le (by simp)] at hr
    rw [← hr] at ret
    refine' ret (.bytes out1 _) _ _ [(x, _), (_, _), (_, _)] ?a ?b ?c ⟨⟨_, rfl⟩, ?d⟩
    case a => k_asm
    case b => k_asm
    case c => assumption
    case d => exact decAt_of
theorem dec_feedT (w : World) {x dx o : Addr} {k1 k2 k3 k4 k5 t2 t4 t5 : Tok} {dn : Bool} {lf out : Array UInt8} {pl mn : Int} {b : Array UInt8} {tb : Tok} (hm : mn ≤ 128) (hz : out.size + 128 * b.size + 256 ≤ 16777216) (hlf : lf.size + b.size ≤ 16777216) :
    Ctr w 3 68 [.ref x, .bytes b tb] [(x, instObj 134 dx), (dx, decL w.params k1 k2 k3 k4 k5 t2 t4 t5 dn lf o pl mn), (o, baObj out)] (fun v l' => (∃ t, v = .bytes (Dec.run ⟨dn, lf, out, pl, mn⟩ b.toList).out t) ∧ DecAt w.params x { Dec.run ⟨dn, lf, out, pl, mn⟩ b.toList with out := #[] } l') :=
  dec_feed w (zt := ⟨k1, k2, k3, k4, k5, t2, t4, t5⟩) hm hz hlf
end
section
section
variable {M : Model} {A : Around} {E : Value → Shared → Prop} {s : Shared} {env : Env}
theorem eval_Subscript_C {value slice : Expr} {pos : Pos} {Q : Value → Shared → Prop}
    (h : wpC M A (eval value env) (fun o s₁ => wpAny M A (eval slice env) (fun i s₂ => wpAny M A (subscriptTail value slice o i) Q E s₂) E s₁) E s) :
    wpC M A (eval (.Subscript value slice pos) env) Q E s := by
  rw [arm_eval_Subscript]
  exact wpC_bind (wpC_mono h (fun o s₁ h₁ => wpC_bindA (wpAny_holding (wpAny_mono h₁ (fun i s₂ h₂ => wpC_bind (wpC_standAt (wpC_any h₂))) fun _ _ x => x))) fun _ _ x => x)
theorem isTrue_Not_C {x : Expr} {pos : Pos} {t : Sem Value} {Q : Bool → Shared → Prop} (h : wpC M A (isTrue x env (eval x env)) (fun b s₁ => Q (!b) s₁) E s) :
    wpC M A (isTrue (.UnaryOp .Not x pos) env t) Q E s := by
  have e : isTrue (.UnaryOp .Not x pos) env t = (do return !(← isTrue x env (eval x env))) := rfl
  rw [e]
  exact wpC_bind (wpC_mono h (fun _ _ x => wpC_pure x) fun _ _ x => x)
theorem isTrue_Bool_C {op : BoolOp} {xs : List Expr} {pos : Pos} {t : Sem Value} {Q : Bool → Shared → Prop} (h : wpC M A (allTrue op xs env) Q E s) :
    wpC M A (isTrue (.BoolOp op xs pos) env t) Q E s := by
  have e : isTrue (.BoolOp op xs pos) env t = allTrue op xs env := rfl
  rw [e]; exact h
theorem allTrue_nil_C {op : BoolOp} {Q : Bool → Shared → Prop} (h : Q (op == .And) s) : wpC M A (allTrue op [] env) Q E s := wpC_pure h
theorem allTrue_Or_C {x : Expr} {rest : List Expr} {Q : Bool → Shared → Prop}
    (h : wpC M A (isTrue x env (eval x env)) (fun b s₁ => (b = true → Q true s₁) ∧ (b = false → wpC M A (allTrue .Or rest env) Q E s₁)) E s) : wpC M A (allTrue .Or (x :: rest) env) Q E s := by
  have e : allTrue .Or (x :: rest) env = (isTrue x env (eval x env) >>= fun b => match BoolOp.Or, b with | .And, false => pure false | .Or, true => pure true | _, _ => allTrue .Or rest env) := rfl
  rw [e]
  refine wpC_bind (wpC_mono h (fun b s₁ h₁ => ?_) fun _ _ x => x)
  cases b
  · exact h₁.2 rfl
  · exact wpC_pure (h₁.1 rfl)
theorem allTrue_And_C {x : Expr} {rest : List Expr} {Q : Bool → Shared → Prop}
    (h : wpC M A (isTrue x env (eval x env)) (fun b s₁ => (b = false → Q false s₁) ∧ (b = true → wpC M A (allTrue .And rest env) Q E s₁)) E s) : wpC M A (allTrue .And (x :: rest) env) Q E s := by
  have e : allTrue .And (x :: rest) env = (isTrue x env (eval x env) >>= fun b => match BoolOp.And, b with | .And, false => pure false | .Or, true => pure true | _, _ => allTrue .And rest env) := rfl
  rw [e]
  refine wpC_bind (wpC_mono h (fun b s₁ h₁ => ?_) fun _ _ x => x)
  cases b
  · exact wpC_pure (h₁.1 rfl)
  · exact h₁.2 rfl
theorem isTrue_Compare_C {l r : Expr} {op : CmpOp} {pos : Pos} {t : Sem Value} {Q : Bool → Shared → Prop}
    (h : wpC M A (eval l env) (fun a s₁ => wpC M A (eval r env) (fun b s₂ => wpAny M A (compareOp op a b) (fun c s₃ => wpAny M A (truthy c) Q E s₃) E s₂) E s₁) E s)
    (hm : markedEach [op] [r] (evalEach [r] env) = [eval r env] := by rfl) : wpC M A (isTrue (.Compare l [op] [r] pos) env t) Q E s := by
  have e : isTrue (.Compare l [op] [r] pos) env t = (do testChain pos (← eval l env) [op] (markedEach [op] [r] (evalEach [r] env))) := rfl
  rw [e, hm]
  refine wpC_bind (wpC_mono h (fun a s₁ h₁ => ?_) fun _ _ x => x)
  show wpC M A (do let rv ← holding [a] (eval r env); standAt pos; let c ← operate [a, rv] (compareOp op a rv); holding [c] (truthy c)) _ _ _
  exact wpC_bind (wpC_holding (wpC_mono h₁ (fun b s₂ h₂ => wpC_bind (wpC_standAt (wpC_bind (operate_C (wpC_any (wpAny_mono h₂ (fun c s₃ h₃ => wpC_holding (wpC_any h₃)) fun _ _ x => x)))))) fun _ _ x => x))
/-- a built-in called, its arguments in this logic -/
theorem callWith_CBC {id : String} {pos : Pos} {first : List Value} {e : Expr} {rest : List Expr} {Q : Value → Shared → Prop}
    (h : wpC M A (spliced (backTo pos (starEach (e :: rest) env))) (fun vs s₁ => wpC M A (call (.builtin id) (first ++ vs)) Q E s₁) E s)
    (he : starEach (e :: rest) env = (false, eval e env) :: starEach rest env := by rfl) (hplain : (backTo pos (starEach rest env)).any (·.1) = false := by rfl) :
    wpC M A (callWith pos (.builtin id) first (backTo pos (starEach (e :: rest) env)) (backToKw pos (keywordEach [] env))) Q E s := by
  rw [he] at h ⊢
  exact callWith_C (P := fun _ => True) (by show ((false || (backTo pos (starEach rest env)).any (·.1)) || false) = false; rw [hplain]; rfl) keeps_builtin
    (evalArgs_C (wpC_mono h (fun _ _ x => ⟨trivial, x⟩) fun _ _ x => x))
end
theorem hd4 {h₀ h : Heap} {L : Addr} {a x d o q : Addr × Obj} {l : List (Addr × Obj)} (N : News h₀ L h (a :: x :: d :: o :: q :: l)) : News h₀ L h ([a] ++ l) := by
  intro y hy
  refine N y ?_
  simp only [List.cons_append, List.nil_append, List.mem_cons] at hy ⊢
  rcases hy with h | h <;> simp only [h, true_or, or_true]
theorem hd3 {h₀ h : Heap} {L : Addr} {a x d o : Addr × Obj} {l : List (Addr × Obj)} (N : News h₀ L h (a :: x :: d :: o :: l)) : News h₀ L h ([a] ++ l) := by
  intro y hy
  refine N y ?_
  simp only [List.cons_append, List.nil_append, List.mem_cons] at hy ⊢
  rcases hy with h | h <;> simp only [h, true_or, or_true]
theorem nd1 {a : Nat} : [a].Nodup := by simp
end
section
theorem begins_X5 : True := by
  w_top off
  exact trivial
/-- the exception and what it bears are new to the base -/
def FreshX (h₀ : Heap) (L e : Addr) (l : List (Addr × Obj)) : Prop := (h₀.get? e = none ∧ e ≠ L) ∧ ∀ q ∈ l, h₀.get? q.1 = none ∧ q.1 ≠ L
theorem fresh_one {h₀ g : Heap} {L a : Addr} {m : Str → Option Value} (F : Fr h₀ L g m) (h : g.get? a = none) : h₀.get? a = none ∧ a ≠ L := by
  refine ⟨?_, fun e => ?_⟩
  · cases q : h₀.get? a with
    | none => rfl
    | some o => have := F.keep a o q; rw [h] at this; cases this
  · obtain ⟨o, _, _, ho, _⟩ := F.ns
    rw [← e, h] at ho
    cases ho
theorem fresh_up {h₀ g : Heap} {L L' e : Addr} {m : Str → Option Value} {l : List (Addr × Obj)} (F : Fr h₀ L g m) (h : FreshX g L' e l) : FreshX h₀ L e l := ⟨fresh_one F h.1.1, fun q hq => fresh_one F (h.2 q hq).1⟩
/-- what a call of the def at f does that may raise a PsError -/
def CtrX (w : World) (k : Nat) (f : Addr) (args : List Value) (pre : List (Addr × Obj)) (post : Value → List (Addr × Obj) → Prop) (postX : Addr → List (Addr × Obj) → Prop) : Prop :=
  ∀ {A A₀ : Around} {base h₀ : Heap} {outer : List Env} {L : Addr} {m mg mb : Str → Option Value} {env : Env} {p : Program} {loose : List Str} {mean : ExcName → Option Value} {rest : List (Addr × Obj)} {s : Shared} {R : Result → Shared → Prop},
    Below A₀ base outer h₀ → Fr h₀ L s.heap m → (Mine0.hd.heap_1 w.params).In h₀ → Led h₀ L s.heap (pre ++ rest) → Top p loose mean mg mb h₀ → A.frames = some (env :: outer) → env.frame = some L → env.scope.kind = .function → A.handled = none →
    A.depth + k < recursionLimit → A.units + 8 * k < cLine →
    (∀ v h' tk' l', Fr h₀ L h' m → News h₀ L h' (l' ++ rest) → ((l' ++ rest).map (·.1)).Nodup → post v l' → R (.ok (.ret v)) { s with heap := h', toks := tk' }) →
    (∀ e d t g h' tk' l', RaisedD base (env :: outer) e 45 d (.ref t) (l' ++ rest) h' → Fr h₀ L g m → g.UpToSlots h' → ((l' ++ rest).map (·.1)).Nodup → FreshX h₀ L e l' → postX d l' → R (.error (.ref e)) { s with heap := h', toks := tk' }) →
    codeC (model PySem.Challenge.rw_nt0489_01.row.prog w) A (.call (.ref f) ⟨args, []⟩) R s
/-- what an uncaught PsError of the decoder bears -/
def Told (P : Params) (d : Addr) (l : List (Addr × Obj)) : Prop := ∃ k t, l = [(d, toldD P k (.bytes #[105, 111, 101, 114, 114, 111, 114] t))]
theorem use_ctrX {w : World} {k : Nat} {f : Addr} {args : List Value} {pre : List (Addr × Obj)} {post : Value → List (Addr × Obj) → Prop} {postX : Addr → List (Addr × Obj) → Prop} (C : CtrX w k f args pre post postX)
    {A A₀ : Around} {base h₀ : Heap} {outer : List Env} {L : Addr} {m mg mb : Str → Option Value} {env : Env} {p : Program} {loose : List Str} {mean : ExcName → Option Value} {rest : List (Addr × Obj)} {s : Shared} {Q E : Value → Shared → Prop}
    (F : Fr h₀ L s.heap m) (N : News h₀ L s.heap (pre ++ rest)) (nd : ((pre ++ rest).map (·.1)).Nodup) (B : Below A₀ base outer h₀) (X : (Mine0.hd.heap_1 w.params).In h₀) (T : Top p loose mean mg mb h₀)
    (hA : A.frames = some outer) (hf : env.frame = some L) (hk : env.scope.kind = .function) (hh : A.handled = none) (hd : A.depth + 1 + k < recursionLimit) (hu : A.units + 3 + 8 * k < cLine)
    (hx : ∀ e d t g h' tk' l', RaisedD base (env :: outer) e 45 d (.ref t) (l' ++ rest) h' → Fr h₀ L g m → g.UpToSlots h' → ((l' ++ rest).map (·.1)).Nodup → FreshX h₀ L e l' → postX d l' → E (.ref e) { s with heap := h', toks := tk' })
    (h : ∀ v h' tk' l', Fr h₀ L h' m → News h₀ L h' (l' ++ rest) → ((l' ++ rest).map (·.1)).Nodup → post v l' → Q v { s with heap := h', toks := tk' }) :
    wpC (model PySem.Challenge.rw_nt0489_01.row.prog w) (A.deeper env) (call (.ref f) args) Q E s :=
  wpC_call (C B F X ⟨N, nd⟩ T (by simp only [Around.deeper, hA, Option.map_some]) hf hk hh hd hu h hx)
theorem use_ps {w : World} {v : Value}
    {A A₀ : Around} {base h₀ : Heap} {outer : List Env} {L : Addr} {m mg mb : Str → Option Value} {env : Env} {p : Program} {loose : List Str} {mean : ExcName → Option Value} {rest : List (Addr × Obj)} {s : Shared} {Q E : Value → Shared → Prop}
    (F : Fr h₀ L s.heap m) (N : News h₀ L s.heap rest) (nd : (rest.map (·.1)).Nodup) (B : Below A₀ base outer h₀) (X : (Mine0.hd.heap_1 w.params).In h₀) (T : Top p loose mean mg mb h₀)
    (hA : A.frames = some outer) (hf : env.frame = some L) (hk : env.scope.kind = .function) (hh : A.handled = none) (hd : A.depth + 1 + 1 + 1 < recursionLimit) (hu : A.units + 3 + 1 + 8 * 1 < cLine)
    (hc : (Mine0.hd.heap_1 w.params).lookup 45 = some (excClassObj "PsError" "PsError" 45 44 [.ref 32] (tailX 32) true [] [] false none none (some (.ref 36)) none (some (.str "PsError" 218)) (some (.str "PsError" 226)) (some (.bool true)) "Exception.__new__"))
    (hi : findIn (Mine0.hd.heap_1 w.params) (.ref 45) "__init__" = some (some (.ref 29))) (hfn : isFn (Mine0.hd.heap_1 w.params) (.ref 29) = true)
    (h : ∀ x d t h' tk' k, Fr h₀ L h' m → News h₀ L h' ((x, excObj 45 d (exc1 t)) :: (d, toldD w.params k v) :: rest) → (((x, excObj 45 d (exc1 t)) :: (d, toldD w.params k v) :: rest).map (·.1)).Nodup → Q (.ref x) { s with heap := h', toks := tk' }) :
    wpC (model PySem.Challenge.rw_nt0489_01.row.prog w) (A.deeper env) (call (.ref 45) [v]) Q E s := by
  have X1 := X.keeps F.keep
  have hC := X1 _ _ hc
  refine wpC_call ?_
  obtain ⟨hp, g, d, tk, os⟩ := s
  refine exc_core_C X1 hC hi (beq_iff_eq.mp hfn) (by size_fits) ?_
  have N1 := (N.push F (tupOf [v])).push (F.push _) (excNew 45 hp.objs.size)
  have F1 := (F.push (tupOf [v])).push (excNew 45 hp.objs.size)
  rw [Heap.size_push] at N1
  have l1 : ∀ p ∈ rest, p.1 < hp.objs.size := fun p hp => Heap.lt_size (N p hp).1
  have e9 : ∀ p ∈ rest, p.1 ≠ hp.objs.size := fun p hp => Nat.ne_of_lt (l1 p hp)
  have e8 : ∀ p ∈ rest, p.1 ≠ hp.objs.size + 1 := fun p hp => Nat.ne_of_lt (Nat.lt_succ_of_lt (l1 p hp))
  refine exc_init w (x := hp.objs.size + 1) (t := hp.objs.size) (v := v) (rest := (hp.objs.size, tupOf [v]) :: rest) B F1 X ⟨N1, ?_⟩ T (by show A.frames.map _ = _; rw [hA]; rfl) hf hk hh (by show A.depth + 1 + 1 + 1 < _; exact hd) (by show A.units + 3 + 1 + 8 * 1 < _; exact hu) (fun v' h₂ tk₂ l₂ F₂ N₂ nd₂ hp₂ => ?_)
  · exact nd1' (Nat.succ_ne_self _) e8 e9 nd
  · obtain ⟨rfl, d2, k2, rfl⟩ := hp₂
    refine ⟨rfl, ?_⟩
    refine h _ d2 hp.objs.size h₂ tk₂ k2 F₂ (fun y hy => N₂ y ?_) ?_
    · simp only [List.cons_append, List.nil_append, List.mem_cons] at hy ⊢
      rcases hy with h | h | h <;> simp only [h, true_or, or_true]
    · refine List.Nodup.sublist ?_ nd₂
      simp only [List.cons_append, List.nil_append, List.map_cons]
      exact .cons_cons _ (.cons_cons _ (.cons _ (.refl _)))
abbrev psObj : Obj := excClassObj "PsError" "PsError" 45 44 [.ref 32] (tailX 32) true [] [] false none none (some (.ref 36)) none (some (.str "PsError" 218)) (some (.str "PsError" 226)) (some (.bool true)) "Exception.__new__"
def PsMade (E : Value → Shared → Prop) (v : Value) (s₁ : Shared) : Prop := ∃ e d t, v = .ref e ∧ s₁.heap.get? 45 = some psObj ∧ s₁.heap.get? e = some (excObj 45 d (exc1 t)) ∧ E (.ref e) s₁
theorem psMade_mk {w : World} {E : Value → Shared → Prop} {s : Shared} {g : Heap} {L x d t : Addr} {m : Str → Option Value} {l : List (Addr × Obj)} (X : (Mine0.hd.heap_1 w.params).In g) (F : Fr g L s.heap m) (N : News g L s.heap ((x, excObj 45 d (exc1 t)) :: l))
    (hc : (Mine0.hd.heap_1 w.params).lookup 45 = some psObj) (hE : E (.ref x) s) : PsMade E (.ref x) s := ⟨x, d, t, rfl, (X.keeps F.keep) _ _ hc, (N _ (.head _)).1, hE⟩
theorem exec_Raise_ps {M : Model} {A : Around} {E : Value → Shared → Prop} {s : Shared} {env : Env} {x : Expr} {pos : Pos} {Q : Flow → Shared → Prop} (hh : A.handled = none)
    (h : wpC M A (eval x env) (fun v s₁ => PsMade E v s₁) E s) :
    wpC M A (exec (.Raise (some x) none pos) env) Q E s := exec_Raise_C hh h
theorem nodup_ne {x : Addr} {o : Obj} {l : List (Addr × Obj)} (h : (((x, o) :: l).map (·.1)).Nodup) : ∀ p ∈ l, p.1 ≠ x := fun p hp e => by
  rw [List.map_cons, List.nodup_cons] at h
  exact h.1 (List.mem_map.mpr ⟨p, hp, e⟩)
theorem told_out {base h7 : Heap} {l9 : List Env} {x e C d : Addr} {o : Obj} {a0 : Value} {P : Params} {k t : Tok} {l rest : List (Addr × Obj)} {G : Prop} (R7 : RaisedD base l9 e C d a0 ((d, toldD P k (.bytes #[105, 111, 101, 114, 114, 111, 114] t)) :: (l ++ rest)) h7)
    (nd7 : (((x, o) :: (d, toldD P k (.bytes #[105, 111, 101, 114, 114, 111, 114] t)) :: (l ++ rest)).map (·.1)).Nodup)
    (h : ∀ l', RaisedD base l9 e C d a0 (l' ++ rest) h7 → ((l' ++ rest).map (·.1)).Nodup → (∀ q ∈ l', q ∈ [(d, toldD P k (.bytes #[105, 111, 101, 114, 114, 111, 114] t))]) → Told P d l' → G) : G := by
  refine h [(d, toldD P k (.bytes #[105, 111, 101, 114, 114, 111, 114] t))] (R7.sub fun p hp => ?_) (List.Nodup.sublist ?_ nd7) (fun _ h => h) ⟨k, t, rfl⟩
  · rcases List.mem_cons.mp hp with rfl | hp
    · exact .head _
    · exact .tail _ (List.mem_append_right _ hp)
  · simp only [List.cons_append, List.nil_append, List.map_cons, List.map_append]
    exact .cons _ (.cons_cons _ (List.sublist_append_right _ _))
theorem dec_end (w : World) {x dx o : Addr} {zt : DTok} {dn : Bool} {lf out : Array UInt8} {pl mn : Int} :
    CtrX w 4 131 [.ref x] [(x, instObj 134 dx), (dx, decD w.params zt dn lf o pl mn), (o, baObj out)]
      (fun v l' => v = .none ∧ (pl ≤ 0 ∧ mn ≤ 0) ∧ DecAt w.params x ⟨dn, lf, out, pl, mn⟩ l') (fun d l' => (0 < pl ∨ 0 < mn) ∧ Told w.params d l') := by
  intro A A₀ base h₀ outer L m mg mb env p loose mean rest s R B F X₀ LD T hA hf hke hh hd hu ret retX
  obtain ⟨N, nd⟩ := LD
  ((rename List.Nodup _ => nd9; have e1 := ownOff_of nd9; have e2 := nodup_rest nd9; have e3 := nodup_own nd9; simp only [List.map_cons, List.map_nil] at e1 e3; obtain ⟨_, _, _⟩ := ne3 e3; clear e3))
  simp only [List.cons_append, List.nil_append] at N
  revert X₀; k_fill; intro X₀
  refine' def_CX (binds := [(Str.ofString "self", .ref x)]) B F X₀ N T hA hf hke ?k6 ?k7 ?k8 ?k9 ?kB ?_ ?c2 ?c3 ?c4 ?c5
  (( (case k6 => k_is); (case k7 => k_is); (case k8 => walk_at "om"); (case k9 => first | exact BindsTo.of_eq rfl | exact binds_K (by k_in) rfl (by k_is) rfl rfl rfl | fail "enter: no rule for these arguments"); (case c5 => decide); (case kB => exact locs rfl); (case c2 => exact rfl); (case c3 => exact rfl); (case c4 => exact rfl)))
  intro g' L' h' FG' F' N' B' X' T' l1
  clear F N
  (repeat' (first | (k_unfold; (try dsimp only)) | (first | (with_reducible first | ((show (_ : Flow → Shared → Prop) _ _); rename Flow → Shared → Prop => K9; rename KR K9 _ => kr9; rename KN K9 _ => kn9; (first | refine kn9 _ ?_ | refine kr9.ret _ _ ?_ | refine kr9.brk _ ?_ | refine kr9.cont _ ?_); clear kn9 kr9 K9; (try dsimp only)) | ((show (_ : Flow → Shared → Prop) _ _); (first | refine kn_go (by assumption) ?_ | refine kr_go (by assumption) ?_); (try dsimp only)) | ((show (_ : Bool → Shared → Prop) _ _); rename Bool → Shared → Prop => K9; rename KT K9 _ => kb9; refine kb9 _ _ ?_; clear kb9 K9; (try dsimp only)))) | ((with_reducible show wpC _ _ _ _ _ _); (first | ((with_reducible show wpC _ _ (call (Value.ref 45) _ _) _ _ _); (try dsimp only); (refine' use_ps ?zqF ?zqN ?zqnd ?zqB ?zqX ?zqT ?zqA ?zqf ?zqk ?zqh ?zqd ?zqu ?zqhc ?zqhi ?zqhf ?_; (case zqF => k_asm); (case zqN => k_asm); (case zqnd => (first | assumption | (refine nodup_join ?zqna ?zqnb ?zqnc; (case zqna => (simp only [List.map_cons, List.map_nil]; first | (simp only [List.nodup_cons, List.not_mem_nil, not_false_eq_true, List.nodup_nil, and_self]; done) | (refine nd2 ?_ <;> k_ne) | (refine nd3 ?_ ?_ ?_ <;> k_ne) | (refine nd4 ?_ ?_ ?_ ?_ ?_ ?_ <;> k_ne))); (case zqnb => (simp only [List.map_cons, List.map_nil]; walk_at "off")); (case zqnc => assumption)) | fail "nodup")); (case zqB => k_asm); (case zqX => k_asm); (case zqT => k_asm); (case zqA => k_asm); (case zqf => exact rfl); (case zqk => exact rfl); (case zqh => assumption); (case zqd => (first | exact room2 (by assumption) (by decide) | exact room3 (by assumption) (by decide) | walk_at "om")); (case zqu => (first | exact room2 (by assumption) (by decide) | exact room3 (by assumption) (by decide) | walk_at "om")); (case zqhc => first | k_is | exact rfl); (case zqhi => k_is); (case zqhf => k_is)); intro _ _ _ _ _ _ _ N' nd'; (try k_sweep); (try dsimp only at N' nd'); dsimp only) | ((with_reducible show wpC _ _ (exec (Stmt.Raise (some _) none _) _) _ _ _); (refine exec_Raise_ps ?zqhh ?_; (case zqhh => assumption))) | (((with_reducible show wpC _ _ (execs (_ :: _) _) _ _ _); refine execs_cons_G ?_; intro _ _ _)) | (((with_reducible show wpC _ _ (execs [] _) _ _ _); refine execs_nil_C ?_)) | (((with_reducible show wpC _ _ (exec (Stmt.If _ _ _ _) _) _ _ _); refine exec_If_G ?_; intro _ _)) | (((with_reducible show wpC _ _ (eval (Expr.Call (Expr.Name _ _) _ _ _) _) _ _ _); refine eval_CallName_C ?_)) | (((with_reducible show wpC _ _ (callWith _ (Value.ref _) _ _ _) _ _ _); first | (refine' callWith_CK0 ?zqk1 ?zqk2 ?_; (case zqk1 => k_in); (case zqk2 => k_is)) | (refine' callWith_CK ?zqk1 ?zqk2 ?_; (case zqk1 => k_asm); (case zqk2 => k_is)))))) | (dsimp only; (with_reducible show wpC _ _ _ _ _ _)) | ((fail_if_success (with_reducible show wpC _ _ _ _ _ _)); (first | walk1 | (dsimp only; walk1)))))
  iterate 2
    · rename List.Nodup _ => nd7
      rename News _ _ _ _ => N7
      refine psMade_mk (by k_asm) (by k_asm) (by k_asm) rfl ?_
      refine leave_raiseD (by assumption) (by k_asm) (by k_asm) (nodup_ne nd7) ?_
      intro h7 R7 U7
      exact told_out (l := [(x, _), (dx, _), (o, _)]) R7 nd7 fun l9 r9 n9 s9 t9 => retX _ _ _ g' h7 _ l9 r9 FG' U7 n9 ⟨fresh_one FG' (N7 _ (.head _)).2.2, fun q hq => fresh_one FG' (by rw [List.mem_singleton.mp (s9 q hq)]; exact (N7 _ (.tail _ (.head _))).2.2)⟩ ⟨by lia, t9⟩
  · refine' ret .none _ _ [(x, _), (dx, _), (o, _)] ?a ?b ?c ⟨rfl, ?e, ?d⟩
    case a => k_asm
    case b => k_asm
    case c => assumption
    case d => exact decAt_of
    case e => lia
theorem dec_endT (w : World) {x dx o : Addr} {k1 k2 k3 k4 k5 t2 t4 t5 : Tok} {dn : Bool} {lf out : Array UInt8} {pl mn : Int} :
    CtrX w 4 131 [.ref x] [(x, instObj 134 dx), (dx, decL w.params k1 k2 k3 k4 k5 t2 t4 t5 dn lf o pl mn), (o, baObj out)]
      (fun v l' => v = .none ∧ (pl ≤ 0 ∧ mn ≤ 0) ∧ DecAt w.params x ⟨dn, lf, out, pl, mn⟩ l') (fun d l' => (0 < pl ∨ 0 < mn) ∧ Told w.params d l') :=
  dec_end w (zt := ⟨k1, k2, k3, k4, k5, t2, t4, t5⟩)
end
section
theorem begins_X6 : True := by
  w_top off
  exact trivial
def RaiseArm (P : Prop) : Prop := P
theorem use_ctrXA {w : World} {k : Nat} {f : Addr} {args : List Value} {pre : List (Addr × Obj)} {post : Value → List (Addr × Obj) → Prop} {postX : Addr → List (Addr × Obj) → Prop} (C : CtrX w k f args pre post postX)
    {A A₀ : Around} {base h₀ : Heap} {outer : List Env} {L : Addr} {m mg mb : Str → Option Value} {env : Env} {p : Program} {loose : List Str} {mean : ExcName → Option Value} {rest : List (Addr × Obj)} {s : Shared} {Q E : Value → Shared → Prop}
    (F : Fr h₀ L s.heap m) (N : News h₀ L s.heap (pre ++ rest)) (nd : ((pre ++ rest).map (·.1)).Nodup) (B : Below A₀ base outer h₀) (X : (Mine0.hd.heap_1 w.params).In h₀) (T : Top p loose mean mg mb h₀)
    (hA : A.frames = some outer) (hf : env.frame = some L) (hk : env.scope.kind = .function) (hh : A.handled = none) (hd : A.depth + 1 + k < recursionLimit) (hu : A.units + 3 + 8 * k < cLine)
    (hx : RaiseArm (∀ e d t g h' tk' l', RaisedD base (env :: outer) e 45 d (.ref t) (l' ++ rest) h' → Fr h₀ L g m → g.UpToSlots h' → ((l' ++ rest).map (·.1)).Nodup → FreshX h₀ L e l' → postX d l' → E (.ref e) { s with heap := h', toks := tk' }))
    (h : ∀ v h' tk' l', Fr h₀ L h' m → News h₀ L h' (l' ++ rest) → ((l' ++ rest).map (·.1)).Nodup → post v l' → Q v { s with heap := h', toks := tk' }) :
    wpC (model PySem.Challenge.rw_nt0489_01.row.prog w) (A.deeper env) (call (.ref f) args) Q E s := use_ctrX C F N nd B X T hA hf hk hh hd hu hx h
theorem use_decXN {w : World} {k : Nat} {f : Addr} {args : List Value} {pre : List (Addr × Obj)} {postX : Addr → List (Addr × Obj) → Prop} {x : Addr} {dn : Bool} {lf ou : Array UInt8} {pl mn : Int} {P : Prop} (C : CtrX w k f args pre (fun v l' => v = .none ∧ P ∧ DecAt w.params x ⟨dn, lf, ou, pl, mn⟩ l') postX)
    {A A₀ : Around} {base h₀ : Heap} {outer : List Env} {L : Addr} {m mg mb : Str → Option Value} {env : Env} {p : Program} {loose : List Str} {mean : ExcName → Option Value} {rest : List (Addr × Obj)} {s : Shared} {Q E : Value → Shared → Prop}
    (F : Fr h₀ L s.heap m) (N : News h₀ L s.heap (pre ++ rest)) (nd : ((pre ++ rest).map (·.1)).Nodup) (B : Below A₀ base outer h₀) (X : (Mine0.hd.heap_1 w.params).In h₀) (T : Top p loose mean mg mb h₀)
    (hA : A.frames = some outer) (hf : env.frame = some L) (hk : env.scope.kind = .function) (hh : A.handled = none) (hd : A.depth + 1 + k < recursionLimit) (hu : A.units + 3 + 8 * k < cLine)
    (hx : RaiseArm (∀ e d t g h' tk' l', RaisedD base (env :: outer) e 45 d (.ref t) (l' ++ rest) h' → Fr h₀ L g m → g.UpToSlots h' → ((l' ++ rest).map (·.1)).Nodup → FreshX h₀ L e l' → postX d l' → E (.ref e) { s with heap := h', toks := tk' }))
    (h : ∀ (h' : Heap) (tk' : Tok) (dx o : Addr) (zt : DTok), P → Fr h₀ L h' m → News h₀ L h' ((x, instObj 134 dx) :: (dx, decD w.params zt dn lf o pl mn) :: (o, baObj ou) :: rest) → (x :: dx :: o :: rest.map (·.1)).Nodup → OwnOff rest [x, dx, o] → (rest.map (·.1)).Nodup → x ≠ dx → x ≠ o → dx ≠ o → Q .none { s with heap := h', toks := tk' }) :
    wpC (model PySem.Challenge.rw_nt0489_01.row.prog w) (A.deeper env) (call (.ref f) args) Q E s := by
  refine use_ctrXA C F N nd B X T hA hf hk hh hd hu hx ?_
  rintro v h' tk' l' F' N' nd' ⟨rfl, hP, dx, o, zt, rfl⟩
  have e3 := nodup_own nd'
  simp only [List.map_cons, List.map_nil] at e3
  obtain ⟨n1, n2, n3⟩ := ne3 e3
  exact h h' tk' dx o zt hP F' N' nd' (ownOff_of nd') (nodup_rest nd') n1 n2 n3
theorem use_decXB {w : World} {k : Nat} {f : Addr} {args : List Value} {pre : List (Addr × Obj)} {postX : Addr → List (Addr × Obj) → Prop} {x : Addr} {dn : Bool} {lf ou : Array UInt8} {pl mn : Int} {P : Prop} {bs : Array UInt8} (C : CtrX w k f args pre (fun v l' => (∃ t, v = .bytes bs t) ∧ P ∧ DecAt w.params x ⟨dn, lf, ou, pl, mn⟩ l') postX)
    {A A₀ : Around} {base h₀ : Heap} {outer : List Env} {L : Addr} {m mg mb : Str → Option Value} {env : Env} {p : Program} {loose : List Str} {mean : ExcName → Option Value} {rest : List (Addr × Obj)} {s : Shared} {Q E : Value → Shared → Prop}
    (F : Fr h₀ L s.heap m) (N : News h₀ L s.heap (pre ++ rest)) (nd : ((pre ++ rest).map (·.1)).Nodup) (B : Below A₀ base outer h₀) (X : (Mine0.hd.heap_1 w.params).In h₀) (T : Top p loose mean mg mb h₀)
    (hA : A.frames = some outer) (hf : env.frame = some L) (hk : env.scope.kind = .function) (hh : A.handled = none) (hd : A.depth + 1 + k < recursionLimit) (hu : A.units + 3 + 8 * k < cLine)
    (hx : RaiseArm (∀ e d t g h' tk' l', RaisedD base (env :: outer) e 45 d (.ref t) (l' ++ rest) h' → Fr h₀ L g m → g.UpToSlots h' → ((l' ++ rest).map (·.1)).Nodup → FreshX h₀ L e l' → postX d l' → E (.ref e) { s with heap := h', toks := tk' }))
    (h : ∀ (h' : Heap) (tk' : Tok) (dx o : Addr) (zt : DTok) (t : Tok), P → Fr h₀ L h' m → News h₀ L h' ((x, instObj 134 dx) :: (dx, decD w.params zt dn lf o pl mn) :: (o, baObj ou) :: rest) → (x :: dx :: o :: rest.map (·.1)).Nodup → OwnOff rest [x, dx, o] → (rest.map (·.1)).Nodup → x ≠ dx → x ≠ o → dx ≠ o → Q (.bytes bs t) { s with heap := h', toks := tk' }) :
    wpC (model PySem.Challenge.rw_nt0489_01.row.prog w) (A.deeper env) (call (.ref f) args) Q E s := by
  refine use_ctrXA C F N nd B X T hA hf hk hh hd hu hx ?_
  rintro v h' tk' l' F' N' nd' ⟨⟨t, rfl⟩, hP, dx, o, zt, rfl⟩
  have e3 := nodup_own nd'
  simp only [List.map_cons, List.map_nil] at e3
  obtain ⟨n1, n2, n3⟩ := ne3 e3
  exact h h' tk' dx o zt t hP F' N' nd' (ownOff_of nd') (nodup_rest nd') n1 n2 n3
theorem dec_finish (w : World) {x dx o : Addr} {zt : DTok} {dn : Bool} {lf out : Array UInt8} {pl mn : Int} (hz : out.size < 16777216) :
    CtrX w 6 75 [.ref x] [(x, instObj 134 dx), (dx, decD w.params zt dn lf o pl mn), (o, baObj out)]
      (fun v l' => (∃ t, v = .bytes out t) ∧ (dn = true ∨ (pl ≤ 0 ∧ mn ≤ 0)) ∧ DecAt w.params x ⟨true, lf, #[], pl, mn⟩ l') (fun d l' => (dn = false ∧ (0 < pl ∨ 0 < mn)) ∧ Told w.params d l') := by
  intro A A₀ base h₀ outer L m mg mb env p loose mean rest s R B F X₀ LD T hA hf hke hh hd hu ret retX
  obtain ⟨N, nd⟩ := LD
  ((rename List.Nodup _ => nd9; have e1 := ownOff_of nd9; have e2 := nodup_rest nd9; have e3 := nodup_own nd9; simp only [List.map_cons, List.map_nil] at e1 e3; obtain ⟨_, _, _⟩ := ne3 e3; clear e3))
  simp only [List.cons_append, List.nil_append] at N
  revert X₀; k_fill; intro X₀
  refine' def_CX (binds := [(Str.ofString "self", .ref x)]) B F X₀ N T hA hf hke ?k6 ?k7 ?k8 ?k9 ?kB ?_ ?c2 ?c3 ?c4 ?c5
  (( (case k6 => k_is); (case k7 => k_is); (case k8 => walk_at "om"); (case k9 => first | exact BindsTo.of_eq rfl | exact binds_K (by k_in) rfl (by k_is) rfl rfl rfl | fail "enter: no rule for these arguments"); (case c5 => decide); (case kB => exact locs rfl); (case c2 => exact rfl); (case c3 => exact rfl); (case c4 => exact rfl)))
  intro g' L' h' FG' F' N' B' X' T' l1
  clear F N
  cases dn
  all_goals (repeat' (first | (k_unfold; (try dsimp only)) | (first | (with_reducible first | ((show (_ : Flow → Shared → Prop) _ _); rename Flow → Shared → Prop => K9; rename KR K9 _ => kr9; rename KN K9 _ => kn9; (first | refine kn9 _ ?_ | refine kr9.ret _ _ ?_ | refine kr9.brk _ ?_ | refine kr9.cont _ ?_); clear kn9 kr9 K9; (try dsimp only)) | ((show (_ : Flow → Shared → Prop) _ _); (first | refine kn_go (by assumption) ?_ | refine kr_go (by assumption) ?_); (try dsimp only)) | ((show (_ : Bool → Shared → Prop) _ _); rename Bool → Shared → Prop => K9; rename KT K9 _ => kb9; refine kb9 _ _ ?_; clear kb9 K9; (try dsimp only)))) | ((with_reducible show wpC _ _ _ _ _ _); (first | ((with_reducible show wpC _ _ (call (Value.ref 131) _ _) _ _ _); (try dsimp only); (refine' use_decXN (dec_endT _) ?zqF ?zqN ?zqnd ?zqB ?zqX ?zqT ?zqA ?zqf ?zqk ?zqh ?zqd ?zqu ?hx ?_; (((case zqF => k_asm); (case zqN => (first | k_asm | (refine' drop1 ?zqn9; (case zqn9 => k_asm)) | (refine' drop2 ?zqn9; (case zqn9 => k_asm)) | (refine' drop3 ?zqn9; (case zqn9 => k_asm)) | (refine' drop4 ?zqn9; (case zqn9 => k_asm)))); (case zqnd => (first | assumption | (refine nodup_join ?zqna ?zqnb ?zqnc; (case zqna => (simp only [List.map_cons, List.map_nil]; first | (simp only [List.nodup_cons, List.not_mem_nil, not_false_eq_true, List.nodup_nil, and_self]; done) | (refine nd2 ?_ <;> k_ne) | (refine nd3 ?_ ?_ ?_ <;> k_ne) | (refine nd4 ?_ ?_ ?_ ?_ ?_ ?_ <;> k_ne))); (case zqnb => (simp only [List.map_cons, List.map_nil]; walk_at "off")); (case zqnc => assumption)) | fail "nodup")); (case zqB => k_asm); (case zqX => k_asm); (case zqT => k_asm); (case zqA => k_asm); (case zqf => exact rfl); (case zqk => exact rfl); (case zqh => assumption); (case zqd => (first | exact room2 (by assumption) (by decide) | exact room3 (by assumption) (by decide) | walk_at "om")); (case zqu => (first | exact room2 (by assumption) (by decide) | exact room3 (by assumption) (by decide) | walk_at "om"))))); rotate_left; (intro _ _ _ _ _ _ _ _ _ _ _ _ _ _; (try k_sweep); dsimp only)) | ((with_reducible show wpC _ _ (call (Value.ref 82) _ _) _ _ _); (try dsimp only); (refine' use_decB (dec_toldT _ ?zqh2) ?zqF ?zqN ?zqnd ?zqB ?zqX ?zqT ?zqA ?zqf ?zqk ?zqh ?zqd ?zqu ?_; (((case zqF => k_asm); (case zqN => (first | k_asm | (refine' drop1 ?zqn9; (case zqn9 => k_asm)) | (refine' drop2 ?zqn9; (case zqn9 => k_asm)) | (refine' drop3 ?zqn9; (case zqn9 => k_asm)) | (refine' drop4 ?zqn9; (case zqn9 => k_asm)))); (case zqnd => (first | assumption | (refine nodup_join ?zqna ?zqnb ?zqnc; (case zqna => (simp only [List.map_cons, List.map_nil]; first | (simp only [List.nodup_cons, List.not_mem_nil, not_false_eq_true, List.nodup_nil, and_self]; done) | (refine nd2 ?_ <;> k_ne) | (refine nd3 ?_ ?_ ?_ <;> k_ne) | (refine nd4 ?_ ?_ ?_ ?_ ?_ ?_ <;> k_ne))); (case zqnb => (simp only [List.map_cons, List.map_nil]; walk_at "off")); (case zqnc => assumption)) | fail "nodup")); (case zqB => k_asm); (case zqX => k_asm); (case zqT => k_asm); (case zqA => k_asm); (case zqf => exact rfl); (case zqk => exact rfl); (case zqh => assumption); (case zqd => (first | exact room2 (by assumption) (by decide) | exact room3 (by assumption) (by decide) | walk_at "om")); (case zqu => (first | exact room2 (by assumption) (by decide) | exact room3 (by assumption) (by decide) | walk_at "om")))); (case zqh2 => walk_at "szs")); intro _ _ _ _ _ _ _ _ _ _ _ _ _ _; (try k_sweep); dsimp only) | (((with_reducible show wpC _ _ (execs (_ :: _) _) _ _ _); refine execs_cons_G ?_; intro _ _ _)) | (((with_reducible show wpC _ _ (execs [] _) _ _ _); refine execs_nil_C ?_)) | (((with_reducible show wpC _ _ (exec (Stmt.If _ _ _ _) _) _ _ _); refine exec_If_G ?_; intro _ _)) | (((with_reducible show wpC _ _ (exec (Stmt.Expr _ _) _) _ _ _); refine exec_Expr_C ?_)) | (((with_reducible show wpC _ _ (exec (Stmt.Return (some (Expr.Call _ _ _ _)) _) _) _ _ _); refine exec_Return_C ?_)) | (((with_reducible show wpC _ _ (exec _ _) _ _ _); refine wpC_any ?_)) | (((with_reducible show wpC _ _ (eval (Expr.Call (Expr.Attribute _ _ _) _ _ _) _) _ _ _); refine eval_CallMeth_C ?_)) | (((with_reducible show wpC _ _ (callWith _ (Value.ref _) _ _ _) _ _ _); first | (refine' callWith_CK0 ?zqk1 ?zqk2 ?_; (case zqk1 => k_in); (case zqk2 => k_is)) | (refine' callWith_CK ?zqk1 ?zqk2 ?_; (case zqk1 => k_asm); (case zqk2 => k_is)))))) | (dsimp only; (with_reducible show wpC _ _ _ _ _ _)) | ((fail_if_success (with_reducible show wpC _ _ _ _ _ _)); (first | walk1 | (dsimp only; walk1)))))
  case hx =>
    intro e d t g7 h7 tk7 l7 R7 FG7 U7 nd7 fr7 tl
    refine leave_onD (by assumption) FG7 R7 U7 ?_
    intro h8 R8 U8
    exact retX e d t g' h8 tk7 l7 R8 FG' U8 nd7 (fresh_up FG' fr7) ⟨⟨rfl, tl.1⟩, tl.2⟩
  all_goals (refine' ret (.bytes _ _) _ _ [(x, _), (_, _), (_, _)] ?a ?b ?c ⟨⟨_, rfl⟩, ?e, ?d⟩; (case a => k_asm); (case b => k_asm); (case c => assumption); (case d => exact decAt_of); (case e => first | exact .inl rfl | exact .inr (by assumption)))
theorem dec_finishT (w : World) {x dx o : Addr} {k1 k2 k3 k4 k5 t2 t4 t5 : Tok} {dn : Bool} {lf out : Array UInt8} {pl mn : Int} (hz : out.size < 16777216) :
    CtrX w 6 75 [.ref x] [(x, instObj 134 dx), (dx, decL w.params k1 k2 k3 k4 k5 t2 t4 t5 dn lf o pl mn), (o, baObj out)]
      (fun v l' => (∃ t, v = .bytes out t) ∧ (dn = true ∨ (pl ≤ 0 ∧ mn ≤ 0)) ∧ DecAt w.params x ⟨true, lf, #[], pl, mn⟩ l') (fun d l' => (dn = false ∧ (0 < pl ∨ 0 < mn)) ∧ Told w.params d l') :=
  dec_finish w (zt := ⟨k1, k2, k3, k4, k5, t2, t4, t5⟩) hz
theorem Dec.run_ok : ∀ {l : List UInt8} {st : Dec}, st.many ≤ 128 → (Dec.run st l).many ≤ 128 ∧ (Dec.run st l).out.size ≤ st.out.size + 128 * l.length ∧ (Dec.run st l).left.size ≤ st.left.size + l.length
  | [], _, h => ⟨h, Nat.le_refl _, Nat.le_refl _⟩
  | c :: r, st, h => by
    unfold Dec.run
    split
    · simp only [Array.size_append, List.size_toArray]
      exact ⟨h, by lia, by lia⟩
    · have h2 := Dec.run_ok (l := r) (Dec.take_many (st := st) (n := c.toNat) h)
      have h1 := Dec.take_size (st := st) (n := c.toNat) h
      rw [Dec.take_left] at h2
      simp only [List.length_cons]
      exact ⟨h2.1, by lia, by lia⟩
theorem dec_over (w : World) {x dx o : Addr} {zt : DTok} {dn : Bool} {lf out : Array UInt8} {pl mn : Int} {b : Array UInt8} {tb : Tok} (hm : mn ≤ 128) (hz : out.size + 128 * b.size + 1256 ≤ 16777216) (hlf : lf.size + b.size ≤ 16777216) :
    CtrX w 8 103 [.ref x, .bytes b tb] [(x, instObj 134 dx), (dx, decD w.params zt dn lf o pl mn), (o, baObj out)]
      (fun v l' => ((Dec.run ⟨dn, lf, out, pl, mn⟩ b.toList).done = true ∨ ((Dec.run ⟨dn, lf, out, pl, mn⟩ b.toList).plain ≤ 0 ∧ (Dec.run ⟨dn, lf, out, pl, mn⟩ b.toList).many ≤ 0)) ∧
        ∃ tt t1 t2, v = .ref tt ∧ l' = [(tt, { cls := .type "tuple", data := .seq #[.bytes ((Dec.run ⟨dn, lf, out, pl, mn⟩ b.toList).out ++ #[]) t1, .bytes (Dec.run ⟨dn, lf, out, pl, mn⟩ b.toList).left t2] })])
      (fun d l' => ((Dec.run ⟨dn, lf, out, pl, mn⟩ b.toList).done = false ∧ (0 < (Dec.run ⟨dn, lf, out, pl, mn⟩ b.toList).plain ∨ 0 < (Dec.run ⟨dn, lf, out, pl, mn⟩ b.toList).many)) ∧ Told w.params d l') := by
  intro A A₀ base h₀ outer L m mg mb env p loose mean rest s R B F X₀ LD T hA hf hke hh hd hu ret retX
  obtain ⟨N, nd⟩ := LD
  ((rename List.Nodup _ => nd9; have e1 := ownOff_of nd9; have e2 := nodup_rest nd9; have e3 := nodup_own nd9; simp only [List.map_cons, List.map_nil] at e1 e3; obtain ⟨_, _, _⟩ := ne3 e3; clear e3))
  simp only [List.cons_append, List.nil_append] at N
  revert X₀; k_fill; intro X₀
  refine' def_CX (binds := [(Str.ofString "coder", .ref x), (Str.ofString "octets", .bytes b tb)]) B F X₀ N T hA hf hke ?k6 ?k7 ?k8 ?k9 ?kB ?_ ?c2 ?c3 ?c4 ?c5
  (( (case k6 => k_is); (case k7 => k_is); (case k8 => walk_at "om"); (case k9 => first | exact BindsTo.of_eq rfl | exact binds_K (by k_in) rfl (by k_is) rfl rfl rfl | fail "enter: no rule for these arguments"); (case c5 => decide); (case kB => exact locs rfl); (case c2 => exact rfl); (case c3 => exact rfl); (case c4 => exact rfl)))
  intro g' L' h' FG' F' N' B' X' T' l1
  clear F N
  obtain ⟨z1, z2, z3⟩ := Dec.run_ok (st := ⟨dn, lf, out, pl, mn⟩) (l := b.toList) hm
  simp only [Array.length_toList] at z2 z3
  (repeat' (first | (k_unfold; (try dsimp only)) | (first | (with_reducible first | ((show (_ : Flow → Shared → Prop) _ _); rename Flow → Shared → Prop => K9; rename KR K9 _ => kr9; rename KN K9 _ => kn9; (first | refine kn9 _ ?_ | refine kr9.ret _ _ ?_ | refine kr9.brk _ ?_ | refine kr9.cont _ ?_); clear kn9 kr9 K9; (try dsimp only)) | ((show (_ : Flow → Shared → Prop) _ _); (first | refine kn_go (by assumption) ?_ | refine kr_go (by assumption) ?_); (try dsimp only)) | ((show (_ : Bool → Shared → Prop) _ _); rename Bool → Shared → Prop => K9; rename KT K9 _ => kb9; refine kb9 _ _ ?_; clear kb9 K9; (try dsimp only)))) | ((with_reducible show wpC _ _ _ _ _ _); (first | ((with_reducible show wpC _ _ (call (Value.ref 75) _ _) _ _ _); (try dsimp only); (refine' use_decXB (dec_finishT _ ?zqh2) ?zqF ?zqN ?zqnd ?zqB ?zqX ?zqT ?zqA ?zqf ?zqk ?zqh ?zqd ?zqu ?hx ?_; (((case zqF => k_asm); (case zqN => (first | k_asm | (refine' drop1 ?zqn9; (case zqn9 => k_asm)) | (refine' drop2 ?zqn9; (case zqn9 => k_asm)) | (refine' drop3 ?zqn9; (case zqn9 => k_asm)) | (refine' drop4 ?zqn9; (case zqn9 => k_asm)))); (case zqnd => (first | assumption | (refine nodup_join ?zqna ?zqnb ?zqnc; (case zqna => (simp only [List.map_cons, List.map_nil]; first | (simp only [List.nodup_cons, List.not_mem_nil, not_false_eq_true, List.nodup_nil, and_self]; done) | (refine nd2 ?_ <;> k_ne) | (refine nd3 ?_ ?_ ?_ <;> k_ne) | (refine nd4 ?_ ?_ ?_ ?_ ?_ ?_ <;> k_ne))); (case zqnb => (simp only [List.map_cons, List.map_nil]; walk_at "off")); (case zqnc => assumption)) | fail "nodup")); (case zqB => k_asm); (case zqX => k_asm); (case zqT => k_asm); (case zqA => k_asm); (case zqf => exact rfl); (case zqk => exact rfl); (case zqh => assumption); (case zqd => (first | exact room2 (by assumption) (by decide) | exact room3 (by assumption) (by decide) | walk_at "om")); (case zqu => (first | exact room2 (by assumption) (by decide) | exact room3 (by assumption) (by decide) | walk_at "om")))); (case zqh2 => walk_at "szs")); rotate_left; (intro _ _ _ _ _ _ _ _ _ _ _ _ _ _ _; (try k_sweep); dsimp only)) | ((with_reducible show wpC _ _ (call (Value.ref 68) _ _) _ _ _); (try dsimp only); (refine' use_decB (dec_feedT _ ?zqh1 ?zqh2 ?zqh3) ?zqF ?zqN ?zqnd ?zqB ?zqX ?zqT ?zqA ?zqf ?zqk ?zqh ?zqd ?zqu ?_; (((case zqF => k_asm); (case zqN => (first | k_asm | (refine' drop1 ?zqn9; (case zqn9 => k_asm)) | (refine' drop2 ?zqn9; (case zqn9 => k_asm)) | (refine' drop3 ?zqn9; (case zqn9 => k_asm)) | (refine' drop4 ?zqn9; (case zqn9 => k_asm)))); (case zqnd => (first | assumption | (refine nodup_join ?zqna ?zqnb ?zqnc; (case zqna => (simp only [List.map_cons, List.map_nil]; first | (simp only [List.nodup_cons, List.not_mem_nil, not_false_eq_true, List.nodup_nil, and_self]; done) | (refine nd2 ?_ <;> k_ne) | (refine nd3 ?_ ?_ ?_ <;> k_ne) | (refine nd4 ?_ ?_ ?_ ?_ ?_ ?_ <;> k_ne))); (case zqnb => (simp only [List.map_cons, List.map_nil]; walk_at "off")); (case zqnc => assumption)) | fail "nodup")); (case zqB => k_asm); (case zqX => k_asm); (case zqT => k_asm); (case zqA => k_asm); (case zqf => exact rfl); (case zqk => exact rfl); (case zqh => assumption); (case zqd => (first | exact room2 (by assumption) (by decide) | exact room3 (by assumption) (by decide) | walk_at "om")); (case zqu => (first | exact room2 (by assumption) (by decide) | exact room3 (by assumption) (by decide) | walk_at "om")))); (case zqh1 => walk_at "om"); (case zqh2 => walk_at "szs"); (case zqh3 => walk_at "szs")); intro _ _ _ _ _ _ _ _ _ _ _ _ _ _; (try k_sweep); dsimp only) | (((with_reducible show wpC _ _ (exec (Stmt.Return (some (Expr.Tuple _ _ _)) _) _) _ _ _); refine exec_Return_C ?_)) | (((with_reducible show wpC _ _ (eval (Expr.Tuple _ _ _) _) _ _ _); refine eval_Tuple_C ?_)) | (((with_reducible show wpC _ _ (eval (Expr.BinOp _ _ _ _) _) _ _ _); refine eval_BinOp_C ?_)) | (((with_reducible show wpC _ _ (eval (Expr.Name _ _) _) _ _ _); refine wpC_any ?_)) | (((with_reducible show wpC _ _ (eval (Expr.Attribute _ _ _) _) _ _ _); refine wpC_any ?_)) | (((with_reducible show wpC _ _ (ite (false = true) _ _) _ _ _); refine wpC_ite_f Bool.false_ne_true ?_)) | (((with_reducible show wpC _ _ (spliced _) _ _ _); show wpC _ _ (spliced ((false, _) :: _)) _ _ _; refine spliced_cons_C ?_)) | (((with_reducible show wpC _ _ (spliced _) _ _ _); show wpC _ _ (spliced []) _ _ _; refine spliced_nil_C ?_)) | (((with_reducible show wpC _ _ (execs (_ :: _) _) _ _ _); refine execs_cons_G ?_; intro _ _ _)) | (((with_reducible show wpC _ _ (exec (Stmt.Assign [Expr.Name _ _] (Expr.Call _ _ _ _) _) _) _ _ _); refine exec_AssignName_C ?_)) | (((with_reducible show wpC _ _ (eval (Expr.Call (Expr.Attribute _ _ _) _ _ _) _) _ _ _); refine eval_CallMeth_C ?_)) | (((with_reducible show wpC _ _ (callWith _ (Value.ref _) _ _ _) _ _ _); first | (refine' callWith_CK0 ?zqk1 ?zqk2 ?_; (case zqk1 => k_in); (case zqk2 => k_is)) | (refine' callWith_CK ?zqk1 ?zqk2 ?_; (case zqk1 => k_asm); (case zqk2 => k_is)))))) | (dsimp only; (with_reducible show wpC _ _ _ _ _ _)) | ((fail_if_success (with_reducible show wpC _ _ _ _ _ _)); (first | walk1 | (dsimp only; walk1)))))
  case hx =>
    intro e d t g7 h7 tk7 l7 R7 FG7 U7 nd7 fr7 tl
    refine leave_onD (by assumption) FG7 R7 U7 ?_
    intro h8 R8 U8
    exact retX e d t g' h8 tk7 l7 R8 FG' U8 nd7 (fresh_up FG' fr7) ⟨tl.1, tl.2⟩
  all_goals walk_at "ands"
  all_goals (refine' ret (.ref _) _ _ [(_, _)] ?a ?b ?c ⟨?e, _, _, _, rfl, ?d⟩; (case a => k_asm); (case b => refine' hd3 ?n; (case n => k_asm)); (case c => (refine nodup_join ?na ?nb ?nc; (case na => exact nd1); (case nb => (refine ownOff_cons ?oa ownOff_nil; exact allLt_ne (by assumption))); (case nc => assumption))); (case d => rfl); (case e => assumption))
theorem dec_overT (w : World) {x dx o : Addr} {k1 k2 k3 k4 k5 t2 t4 t5 : Tok} {dn : Bool} {lf out : Array UInt8} {pl mn : Int} {b : Array UInt8} {tb : Tok} (hm : mn ≤ 128) (hz : out.size + 128 * b.size + 1256 ≤ 16777216) (hlf : lf.size + b.size ≤ 16777216) :
    CtrX w 8 103 [.ref x, .bytes b tb] [(x, instObj 134 dx), (dx, decL w.params k1 k2 k3 k4 k5 t2 t4 t5 dn lf o pl mn), (o, baObj out)]
      (fun v l' => ((Dec.run ⟨dn, lf, out, pl, mn⟩ b.toList).done = true ∨ ((Dec.run ⟨dn, lf, out, pl, mn⟩ b.toList).plain ≤ 0 ∧ (Dec.run ⟨dn, lf, out, pl, mn⟩ b.toList).many ≤ 0)) ∧
        ∃ tt t1 t2, v = .ref tt ∧ l' = [(tt, { cls := .type "tuple", data := .seq #[.bytes ((Dec.run ⟨dn, lf, out, pl, mn⟩ b.toList).out ++ #[]) t1, .bytes (Dec.run ⟨dn, lf, out, pl, mn⟩ b.toList).left t2] })])
      (fun d l' => ((Dec.run ⟨dn, lf, out, pl, mn⟩ b.toList).done = false ∧ (0 < (Dec.run ⟨dn, lf, out, pl, mn⟩ b.toList).plain ∨ 0 < (Dec.run ⟨dn, lf, out, pl, mn⟩ b.toList).many)) ∧ Told w.params d l') :=
  dec_over w (zt := ⟨k1, k2, k3, k4, k5, t2, t4, t5⟩) hm hz hlf
/-- the decoder that has read these octets -/
abbrev decRun (b : Array UInt8) : Dec := Dec.run ⟨false, #[], #[], 0, 0⟩ b.toList
def Dec.isCut (st : Dec) : Prop := st.done = false ∧ (0 < st.plain ∨ 0 < st.many)
theorem decoded (w : World) {b : Array UInt8} {tb : Tok} (hz : 128 * b.size + 20000 ≤ 16777216) :
    CtrX w 10 198 [.bytes b tb] [] (fun v l' => ((decRun b).done = true ∨ ((decRun b).plain ≤ 0 ∧ (decRun b).many ≤ 0)) ∧ l' = [] ∧ ∃ t, v = .bytes ((decRun b).out ++ #[]) t)
      (fun d l' => ((decRun b).done = false ∧ (0 < (decRun b).plain ∨ 0 < (decRun b).many)) ∧ Told w.params d l') := by
  intro A A₀ base h₀ outer L m mg mb env p loose mean rest s R B F X₀ LD T hA hf hke hh hd hu ret retX
  obtain ⟨N, nd⟩ := LD
  have e1 := ownOff_of nd
  have e2 := nodup_rest nd
  simp only [List.nil_append] at N
  revert X₀; k_fill; intro X₀
  refine' def_CX (binds := [(Str.ofString "octets", .bytes b tb)]) B F X₀ N T hA hf hke ?k6 ?k7 ?k8 ?k9 ?kB ?_ ?c2 ?c3 ?c4 ?c5
  (( (case k6 => k_is); (case k7 => k_is); (case k8 => walk_at "om"); (case k9 => first | exact BindsTo.of_eq rfl | exact binds_K (by k_in) rfl (by k_is) rfl rfl rfl | fail "enter: no rule for these arguments"); (case c5 => decide); (case kB => exact locs rfl); (case c2 => exact rfl); (case c3 => exact rfl); (case c4 => exact rfl)))
  intro g' L' h' FG' F' N' B' X' T' l1
  clear F N
  (repeat' (first | (k_unfold; (try dsimp only)) | (first | (with_reducible first | ((show (_ : Flow → Shared → Prop) _ _); rename Flow → Shared → Prop => K9; rename KR K9 _ => kr9; rename KN K9 _ => kn9; (first | refine kn9 _ ?_ | refine kr9.ret _ _ ?_ | refine kr9.brk _ ?_ | refine kr9.cont _ ?_); clear kn9 kr9 K9; (try dsimp only)) | ((show (_ : Flow → Shared → Prop) _ _); (first | refine kn_go (by assumption) ?_ | refine kr_go (by assumption) ?_); (try dsimp only)) | ((show (_ : Bool → Shared → Prop) _ _); rename Bool → Shared → Prop => K9; rename KT K9 _ => kb9; refine kb9 _ _ ?_; clear kb9 K9; (try dsimp only)))) | ((with_reducible show wpC _ _ _ _ _ _); (first | ((with_reducible show wpC _ _ (call (Value.ref 103) _ _) _ _ _); (try dsimp only); (refine' use_ctrXA (dec_overT _ ?zqh1 ?zqh2 ?zqh3) ?zqF ?zqN ?zqnd ?zqB ?zqX ?zqT ?zqA ?zqf ?zqk ?zqh ?zqd ?zqu ?hx ?_; (((case zqF => k_asm); (case zqN => (first | k_asm | (refine' drop1 ?zqn9; (case zqn9 => k_asm)) | (refine' drop2 ?zqn9; (case zqn9 => k_asm)) | (refine' drop3 ?zqn9; (case zqn9 => k_asm)) | (refine' drop4 ?zqn9; (case zqn9 => k_asm)))); (case zqnd => (first | assumption | (refine nodup_join ?zqna ?zqnb ?zqnc; (case zqna => (simp only [List.map_cons, List.map_nil]; first | (simp only [List.nodup_cons, List.not_mem_nil, not_false_eq_true, List.nodup_nil, and_self]; done) | (refine nd2 ?_ <;> k_ne) | (refine nd3 ?_ ?_ ?_ <;> k_ne) | (refine nd4 ?_ ?_ ?_ ?_ ?_ ?_ <;> k_ne))); (case zqnb => (simp only [List.map_cons, List.map_nil]; walk_at "off")); (case zqnc => assumption)) | fail "nodup")); (case zqB => k_asm); (case zqX => k_asm); (case zqT => k_asm); (case zqA => k_asm); (case zqf => exact rfl); (case zqk => exact rfl); (case zqh => assumption); (case zqd => (first | exact room2 (by assumption) (by decide) | exact room3 (by assumption) (by decide) | walk_at "om")); (case zqu => (first | exact room2 (by assumption) (by decide) | exact room3 (by assumption) (by decide) | walk_at "om")))); (case zqh1 => walk_at "om"); (case zqh2 => walk_at "szs"); (case zqh3 => walk_at "szs")); rotate_left; (intro _ _ _ _ _ N' nd' hp'; obtain ⟨q4, _, _, _, q1, q3⟩ := hp'; subst q1; subst q3; (try k_sweep); (try dsimp only at N' nd'); (try simp only [List.cons_append, List.nil_append] at N'); (rename List.Nodup _ => nd9); (have e1 := ownOff_of nd9); (have e2 := nodup_rest nd9); (simp only [List.map_cons, List.map_nil] at e1); dsimp only)) | ((with_reducible show wpC _ _ (callWith _ (Value.ref 103) _ _ _) _ _ _); refine' callWith_CC ?zqk1 ?zqk2 ?_; (case zqk1 => k_asm); (case zqk2 => k_is)) | ((with_reducible show wpC _ _ (call (Value.ref 134) _ _) _ _ _); (try dsimp only); (refine' use_makeD ?zqF ?zqN ?zqnd ?zqB ?zqX ?zqT ?zqA ?zqf ?zqk ?zqh ?zqd ?zqu ?_; (case zqF => k_asm); (case zqN => k_asm); (case zqnd => (first | assumption | (refine nodup_join ?zqna ?zqnb ?zqnc; (case zqna => (simp only [List.map_cons, List.map_nil]; first | (simp only [List.nodup_cons, List.not_mem_nil, not_false_eq_true, List.nodup_nil, and_self]; done) | (refine nd2 ?_ <;> k_ne) | (refine nd3 ?_ ?_ ?_ <;> k_ne) | (refine nd4 ?_ ?_ ?_ ?_ ?_ ?_ <;> k_ne))); (case zqnb => (simp only [List.map_cons, List.map_nil]; walk_at "off")); (case zqnc => assumption)) | fail "nodup")); (case zqB => k_asm); (case zqX => k_asm); (case zqT => k_asm); (case zqA => k_asm); (case zqf => exact rfl); (case zqk => exact rfl); (case zqh => assumption); (case zqd => (first | exact room2 (by assumption) (by decide) | exact room3 (by assumption) (by decide) | walk_at "om")); (case zqu => (first | exact room2 (by assumption) (by decide) | exact room3 (by assumption) (by decide) | walk_at "om"))); intro _ _ _ _ _ _ _ _ _ _ _ _ _ _; (try k_sweep); dsimp only) | (((with_reducible show wpC _ _ (exec (Stmt.Return (some (Expr.Subscript _ _ _)) _) _) _ _ _); refine exec_Return_C ?_)) | (((with_reducible show wpC _ _ (eval (Expr.Subscript _ _ _) _) _ _ _); refine eval_Subscript_C ?_)) | (((with_reducible show wpC _ _ (eval (Expr.Name _ _) _) _ _ _); refine wpC_any ?_)) | (((with_reducible show wpC _ _ (ite (false = true) _ _) _ _ _); refine wpC_ite_f Bool.false_ne_true ?_)) | (((with_reducible show wpC _ _ (spliced _) _ _ _); show wpC _ _ (spliced ((false, _) :: _)) _ _ _; refine spliced_cons_C ?_)) | (((with_reducible show wpC _ _ (spliced _) _ _ _); show wpC _ _ (spliced []) _ _ _; refine spliced_nil_C ?_)) | (((with_reducible show wpC _ _ (execs (_ :: _) _) _ _ _); refine execs_cons_G ?_; intro _ _ _)) | (((with_reducible show wpC _ _ (eval (Expr.Call (Expr.Name _ _) _ _ _) _) _ _ _); refine eval_CallName_C ?_)) | (((with_reducible show wpC _ _ (callWith _ (Value.ref _) _ _ _) _ _ _); first | (refine' callWith_CK0 ?zqk1 ?zqk2 ?_; (case zqk1 => k_in); (case zqk2 => k_is)) | (refine' callWith_CK ?zqk1 ?zqk2 ?_; (case zqk1 => k_asm); (case zqk2 => k_is)))))) | (dsimp only; (with_reducible show wpC _ _ _ _ _ _)) | ((fail_if_success (with_reducible show wpC _ _ _ _ _ _)); (first | walk1 | (dsimp only; walk1)))))
  case hx =>
    intro e d t g7 h7 tk7 l7 R7 FG7 U7 nd7 fr7 tl
    refine leave_onD (by assumption) FG7 R7 U7 ?_
    intro h8 R8 U8
    exact retX e d t g' h8 tk7 l7 R8 FG' U8 nd7 (fresh_up FG' fr7) ⟨tl.1, tl.2⟩
  all_goals walk_at "ands"
  all_goals (refine' ret (.bytes _ _) _ _ [] ?a ?b ?c ⟨?e, rfl, _, ?d⟩; (case a => k_asm); (case b => refine' drop1 ?n; (case n => k_asm)); (case c => assumption); (case d => rfl); (case e => assumption))
end
section
open Sem (wp)
section
variable {M : Model} {A : Around} {E : Value → Shared → Prop} {s : Shared} {env : Env}
theorem exec_Try_C {body : List Stmt} {h₀ : ExceptHandler} {hs : List ExceptHandler} {pos : Pos} {Q : Flow → Shared → Prop}
    (h : wpC M A (execs body env) (fun f s₁ => Q f s₁)
      (fun e s₁ => wpAny M A (noteFrame e env) (fun _ s₂ => wpAny M A (setFlight e none) (fun _ s₃ => wpAny M A (handleBy e env (h₀ :: hs)) Q E s₃) E s₂) E s₁) s) :
    wpC M A (exec (.Try body (h₀ :: hs) [] [] pos) env) Q E s := by
  rw [arm_exec_Try]
  refine wpC_bind (wpC_standAt ?_)
  unfold tryStmt
  simp only [List.isEmpty_nil, if_true, List.isEmpty_cons, Bool.false_and, Bool.false_eq_true, if_false]
  refine wpC_bind (wpC_attempt (wpC_mono h (fun f s₁ h₁ => ?_) fun e s₁ h₁ => ?_))
  · cases f <;> first | exact execs_nil_C h₁ | exact wpC_pure h₁
  · exact wpC_bindA (wpAny_mono h₁ (fun _ _ h₂ => wpC_bindA (wpAny_mono h₂ (fun _ _ h₃ => wpC_any h₃) fun _ _ x => x)) fun _ _ x => x)
/-- the way of an exception stands under a variable -/
theorem exec_Try_G {body : List Stmt} {h₀ : ExceptHandler} {hs : List ExceptHandler} {pos : Pos} {Q : Flow → Shared → Prop}
    (h : ∀ K : Value → Shared → Prop, KE K (fun e s₁ => wpAny M A (noteFrame e env) (fun _ s₂ => wpAny M A (setFlight e none) (fun _ s₃ => wpAny M A (handleBy e env (h₀ :: hs)) Q E s₃) E s₂) E s₁) → wpC M A (execs body env) Q K s) :
    wpC M A (exec (.Try body (h₀ :: hs) [] [] pos) env) Q E s :=
  exec_Try_C (h _ fun _ _ x => x)
variable {nm q : Str} {C N P : Addr} {bs : List Value} {hdct : Bool} {sn : List Str} {sub : List Value} {ab : Bool} {col : Option Bool} {dd : Option Addr} {k0 k1 k2 k3 k5 : Option Value} {newId : String}
end
/-! ## the base of a frame anew, behind an exception caught -/
def cutTo (h : Heap) (L : Nat) : Heap := { h with objs := h.objs.extract 0 L }
theorem cutTo_get {h : Heap} {L : Nat} {b : Addr} : (cutTo h L).get? b = if b < L then h.get? b else none := by
  have e : (h.objs.extract 0 L)[b]? = if b < L then h.objs[b]? else none := by
    by_cases hb : b < L
    · rw [if_pos hb]
      by_cases h2 : b < h.objs.size
      · rw [Array.getElem?_eq_getElem (by simp only [Array.size_extract]; exact Nat.lt_of_lt_of_le (Nat.lt_min.mpr ⟨hb, h2⟩) (Nat.le_refl _)), Array.getElem?_eq_getElem h2]
        simp
      · rw [Array.getElem?_eq_none (by simp only [Array.size_extract]; exact Nat.le_trans (Nat.min_le_right _ _) (Nat.not_lt.mp h2)), Array.getElem?_eq_none (Nat.not_lt.mp h2)]
    · rw [if_neg hb, Array.getElem?_eq_none (by simp only [Array.size_extract]; exact Nat.le_trans (Nat.min_le_left _ _) (Nat.not_lt.mp hb))]
  unfold Heap.get? cutTo
  dsimp only
  rw [e]
  by_cases hb : b < L
  · rw [if_pos hb, if_pos hb]
  · rw [if_neg hb, if_neg hb]
theorem cutTo_size (h : Heap) (L : Nat) : (cutTo h L).objs.size ≤ L := by
  unfold cutTo
  simp only [Array.size_extract]
  lia
def reB (h : Heap) (L : Nat) (l : List (Addr × Obj)) : Heap := hideAll (cutTo h L) (l.map (·.1))
theorem reB_of {h : Heap} {L : Nat} {l : List (Addr × Obj)} {b : Addr} {o : Obj} (e : (reB h L l).get? b = some o) : h.get? b = some o := by
  have := of_hideAll _ e
  rw [cutTo_get] at this
  split at this
  · exact this
  · cases this
theorem reB_get {h : Heap} {L : Nat} {l : List (Addr × Obj)} {b : Addr} {o : Obj} (h1 : b < L) (h2 : ∀ p ∈ l, p.1 ≠ b) (e : h.get? b = some o) : (reB h L l).get? b = some o := by
  refine hideAll_get _ (by rw [cutTo_get, if_pos h1]; exact e) fun hm => ?_
  obtain ⟨p, hp, q⟩ := List.mem_map.mp hm
  exact h2 p hp q
theorem reB_none {h : Heap} {L : Nat} {l : List (Addr × Obj)} {p : Addr × Obj} (hp : p ∈ l) : (reB h L l).get? p.1 = none := hideAll_none _ (List.mem_map_of_mem hp)
theorem reB_size (h : Heap) (L : Nat) (l : List (Addr × Obj)) : (reB h L l).objs.size ≤ L := by
  unfold reB
  rw [hideAll_size]
  exact cutTo_size h L
theorem funFrames_two {base g h r : Heap} (k : ∀ b, (g.get? b).isSome = true → ∀ o, h.get? b = some o → r.get? b = some o) : ∀ {l : List Env}, g.FunFrames base l → h.FunFrames base l → r.FunFrames base l
  | [], _, _ => trivial
  | _ :: _, ⟨_, ⟨L, o, hf, _, ho, _⟩, hr⟩, ⟨hk, ⟨L', o', hf', hn', ho', hd'⟩, hr'⟩ => by
    obtain rfl : L = L' := Option.some.inj (hf.symm.trans hf')
    exact ⟨hk, ⟨L, o', hf, hn', k L (by rw [ho]; rfl) _ ho', hd'⟩, funFrames_two k hr hr'⟩
section
variable {prog : Program} {w : World} {A : Around} {E : Value → Shared → Prop} {s' : Shared} {h₀ g' g : Heap} {outer : List Env} {L L' a e d : Addr} {m m' : Str → Option Value} {env : Env} {name : Str} {scope : Scope} {cd : Value}
  {n : Str} {b₀ : Stmt} {suite : List Stmt} {pos np : Pos} {Q : Flow → Shared → Prop} {l : List (Addr × Obj)} {a0 : Value}
/-- how a frame stands: its base, the caller's frame in it -/
structure Stand (w : World) (A : Around) (h₀ : Heap) (L : Addr) (m : Str → Option Value) (env : Env) (outer : List Env) (p : Program) (loose : List Str) (mean : ExcName → Option Value) (mg mb : Str → Option Value) (g : Heap) : Prop where
  fr : Fr h₀ L g m
  below : Below A h₀ (env :: outer) g
  kin : (Mine0.hd.heap_1 w.params).In g
  top : Top p loose mean mg mb g
/-- a PsError that a callee has raised, caught by its name in the frame's own try: the frame's base is laid anew -/
theorem catch_ps {mg mb : Str → Option Value} {p : Program} {loose : List Str} {mean : ExcName → Option Value} (S : Stand w A h₀ L m env outer p loose mean mg mb g') (hX : (Mine0.hd.heap_1 w.params).In h₀) (hT : Top p loose mean mg mb h₀) (Fg : Fr g' L' g m') (hsm : g.UpToSlots s'.heap)
    (R : RaisedD h₀ (envOf name scope L' a cd :: env :: outer) e 45 d a0 l s'.heap)
    (fr : FreshX g' L' e l) (hg : nsIn (Mine0.hd.heap_1 w.params) mainGlobals "PsError" = some (some (.ref 45))) (hc : (Mine0.hd.heap_1 w.params).lookup 45 = some psObj)
    (k : ∀ g₂ vs h' tk, Stand w A h₀ L m env outer p loose mean mg mb g₂ → Fr g₂ L' h' (fun y => if y = n then some (.ref e) else m' y) → News g₂ L' h' ((e, excObj 45 d vs) :: l) →
      wpAny (model prog w) ((A.deeper (envOf name scope L' a cd)).mark (some (.ref e))) (execs (b₀ :: suite) (envOf name scope L' a cd))
        (fun f s₄ => wpAny (model prog w) (A.deeper (envOf name scope L' a cd)) (do bindName (envOf name scope L' a cd) n .none; unbindBehindTheSuite (envOf name scope L' a cd) n pos) (fun _ s₅ => Q f s₅) E s₄)
        (fun _ _ => False) { s' with heap := h', toks := tk })
    (hk : scope.kind = .function := by rfl) (hlo : (envOf name scope L' a cd).kindOf n = some .local := by rfl) (hx : (envOf name scope L' a cd).kindOf "PsError" = some .globalImplicit := by rfl) :
    wpAny (model prog w) (A.deeper (envOf name scope L' a cd)) (noteFrame (.ref e) (envOf name scope L' a cd))
      (fun _ s₂ => wpAny (model prog w) (A.deeper (envOf name scope L' a cd)) (setFlight (.ref e) none) (fun _ s₃ =>
        wpAny (model prog w) (A.deeper (envOf name scope L' a cd)) (handleBy (.ref e) (envOf name scope L' a cd) [.ExceptHandler (some (.Name "PsError" np)) (some n) (b₀ :: suite) pos]) Q E s₃) E s₂) E s' := by
  obtain ⟨FG, BG, XG, TG⟩ := S
  obtain ⟨B, hB, hl, hkb, hen, hfr, ht⟩ := R
  refine note_next_D (Around.frames_deeper BG.stack) hfr rfl ht hkb hen fun h₁ x1 x2 x3 x4 => ?_
  refine flight_D x1 x2 x3 fun h₂ y1 y2 y3 y4 => ?_
  have hst : h₀.StaysIn h₂ := fun b o q => y1 b o (hB b o q)
  obtain ⟨ve, _, _, _, q1, _⟩ := id y3
  have hK : (Mine0.hd.heap_1 w.params).In h₂ := hX.keeps hst
  have hPs := hK _ _ hc
  have hTr : TopRead p loose mg mb h₀ := by k_asm
  refine wpAny_handleBy_cons (codeAny_handlers_test ?_) (by intro q; cases q)
  refine Name_function_global hk hx (loadGlobal_global (env := envOf name scope L' a cd) (v := .ref 45) (hTr.g.keeps hst) (mg_of hX hTr.g hg) ?_) (by decide)
  refine wpAny_excMatches_sub_self (oe := excObj 45 d ve) hPs q1 rfl (by simp [tailX]) ?_
  show codeAny _ _ _ _ _
  refine codeAny_handlers_suite_as ?_
  refine flight_D y1 y2 y3 fun h₃ z1 z2 z3 z4 => ?_
  have sm₃ : g.UpToSlots h₃ := ((hsm.trans x4).trans y4).trans z4
  have smg : g'.UpToSlots h₃ := (Heap.UpToSlots.of_keeps Fg.keep).trans sm₃
  have hst3 : h₀.StaysIn h₃ := fun b o q => z1 b o (hB b o q)
  obtain ⟨vs, _, _, _, r1, _⟩ := z3
  -- the new base
  have off : ∀ b, (g'.get? b).isSome = true → ∀ p ∈ (e, excObj 45 d vs) :: l, p.1 ≠ b := fun b hb p hp q => by
    rcases List.mem_cons.mp hp with rfl | hp
    · dsimp only at q
      rw [← q, fr.1.1] at hb
      cases hb
    · rw [← q, (fr.2 p hp).1] at hb
      cases hb
  have low : ∀ b, (g'.get? b).isSome = true → b < L' := fun b hb => by
    obtain ⟨o, ho⟩ := Option.isSome_iff_exists.mp hb
    exact Nat.lt_of_lt_of_le (Heap.lt_size ho) Fg.above
  have up : ∀ b, (g'.get? b).isSome = true → ∀ o, h₃.get? b = some o → (reB h₃ L' ((e, excObj 45 d vs) :: l)).get? b = some o := fun b hb o ho => reB_get (low b hb) (off b hb) ho
  have h0g : ∀ b o, h₀.get? b = some o → (g'.get? b).isSome = true := fun b o q => by rw [FG.keep b o q]; rfl
  have keep2 : ∀ b o, h₀.get? b = some o → (reB h₃ L' ((e, excObj 45 d vs) :: l)).get? b = some o := fun b o q => up b (h0g b o q) o (hst3 b o q)
  have nsL : (reB h₃ L' ((e, excObj 45 d vs) :: l)).Ns L m := by
    obtain ⟨o, es, ep, ho, r⟩ := smg.ns FG.ns
    obtain ⟨o', _, _, ho', _⟩ := FG.ns
    exact ⟨o, es, ep, up L (by rw [ho']; rfl) o ho, r⟩
  have S₂ : Stand w A h₀ L m env outer p loose mean mg mb (reB h₃ L' ((e, excObj 45 d vs) :: l)) :=
    ⟨⟨nsL, keep2, FG.above⟩, ⟨BG.stack, keep2, funFrames_two up BG.frames (funFrames_base hB z2.2.2)⟩, hX.keeps keep2, hT.keeps keep2⟩
  have F₂ : Fr (reB h₃ L' ((e, excObj 45 d vs) :: l)) L' h₃ m' := ⟨sm₃.ns Fg.ns, fun b o q => reB_of q, reB_size _ _ _⟩
  have N₂ : News (reB h₃ L' ((e, excObj 45 d vs) :: l)) L' h₃ ((e, excObj 45 d vs) :: l) := fun q hq => by
    refine ⟨?_, ?_, reB_none hq⟩
    · rcases List.mem_cons.mp hq with rfl | hq
      · exact r1
      · exact z1 _ _ (hl q hq).1
    · rcases List.mem_cons.mp hq with rfl | hq
      · exact fr.1.2
      · exact (fr.2 q hq).2
  refine storeX_L F₂ N₂ (fun h₄ F₄ N₄ => ?_) hk hlo
  exact wpAny_mono (k _ vs h₄ _ S₂ F₄ N₄) (fun _ _ x => x) fun _ _ x => x.elim
end
end
section
theorem begins_D9 : True := by
  w_top off
  exact trivial
def Enc.run (rc : Int) : Enc → List UInt8 → Enc
  | st, [] => st
  | st, c :: r => Enc.run rc (st.take rc c.toNat) r
structure Enc.Ok (st : Enc) : Prop where
  plain : st.plain.size ≤ 128
  same0 : 0 ≤ st.same
  same1 : st.same < 256
  many0 : 0 ≤ st.many
  many1 : st.many ≤ 128
theorem Enc.take_ok {rc : Int} {st : Enc} {n : Int} (h : st.Ok) (h0 : 0 ≤ n) (h1 : n < 256) : (st.take rc n).Ok ∧ (st.take rc n).out.size ≤ st.out.size + 400 := by
  obtain ⟨a1, a2, a3, a4, a5⟩ := h
  obtain ⟨out, tk, plain, sm, mn⟩ := st
  dsimp only at *
  have z1 := crPlain_size (sm := sm) a4 a1
  have z2 := crOut_size (out := out) (plain := plain) (sm := sm) (mn := mn)
  have key : ∀ (out' plain' : Array UInt8) (mn' : Int), plain'.size ≤ 128 → out'.size ≤ out.size + 131 → 0 ≤ mn' → mn' < 128 →
      Enc.Ok (if tk + 1 = rc then { (Enc.closeAll ⟨out', tk + 1, plain', n, mn' + 1⟩) with taken := 0 } else ⟨out', tk + 1, plain', n, mn' + 1⟩) ∧
      (if tk + 1 = rc then { (Enc.closeAll ⟨out', tk + 1, plain', n, mn' + 1⟩) with taken := 0 } else (⟨out', tk + 1, plain', n, mn' + 1⟩ : Enc)).out.size ≤ out.size + 400 := by
    intro out' plain' mn' b1 b2 b3 b4
    have y1 := crPlain_size (plain := plain') (sm := n) (mn := mn' + 1) (by lia) b1
    have y2 := crOut_size (out := out') (plain := plain') (sm := n) (mn := mn' + 1)
    have y3 := cpOut_size (crOut out' plain' n (mn' + 1)) (crPlain plain' n (mn' + 1))
    split
    · simp only [Enc.closeAll, Enc.closeRun, Enc.closePlain]
      exact ⟨⟨Nat.zero_le _, h0, h1, Int.le_refl _, by dsimp only; lia⟩, by lia⟩
    · exact ⟨⟨b1, h0, h1, by dsimp only; lia, by dsimp only; lia⟩, by dsimp only; lia⟩
  unfold Enc.take
  dsimp only
  by_cases q : mn = 128 ∨ (0 < mn ∧ n ≠ sm)
  · rw [if_pos q]
    simp only [Enc.closeRun]
    exact key (crOut out plain sm mn) (crPlain plain sm mn) 0 z1 (by lia) (by lia) (by lia)
  · rw [if_neg q]
    exact key out plain mn a1 (by lia) a4 (by lia)
theorem enc_feed (w : World) {x dx o p : Addr} {zt : ETok} {dn : Bool} {lf out plain : Array UInt8} {rc tk sm mn : Int} {b : Array UInt8} {tb : Tok} (hdn : dn = false) (hk : Enc.Ok ⟨out, tk, plain, sm, mn⟩) (hz : out.size + 400 * b.size + 8000 ≤ 16777216) :
    Ctr w 6 68 [.ref x, .bytes b tb] [(x, instObj 189 dx), (dx, encD w.params zt dn lf o rc tk p sm mn), (o, baObj out), (p, baObj plain)] (fun v l' => (∃ t, v = .bytes (Enc.run rc ⟨out, tk, plain, sm, mn⟩ b.toList).out t) ∧ EncAt w.params x false lf rc { Enc.run rc ⟨out, tk, plain, sm, mn⟩ b.toList with out := #[] } l') := by
  intro A A₀ base h₀ outer L m mg mb env pg loose mean rest s R B F X₀ LD T hA hf hke hh hd hu ret
  obtain ⟨N, nd⟩ := LD
  ((rename List.Nodup _ => nd9; have e1 := ownOff_of nd9; have e2 := nodup_rest nd9; have e3 := nodup_own nd9; simp only [List.map_cons, List.map_nil] at e1 e3; obtain ⟨_, _, _, _, _, _⟩ := ne4 e3; clear e3))
  simp only [List.cons_append, List.nil_append] at N
  revert X₀; k_fill; intro X₀
  refine' def_C (binds := [(Str.ofString "self", .ref x), (Str.ofString "octets", .bytes b tb)]) B F X₀ N T hA hf hke ?k6 ?k7 ?k8 ?k9 ?kB ?_ ?c2 ?c3 ?c4 ?c5
  (( (case k6 => k_is); (case k7 => k_is); (case k8 => walk_at "om"); (case k9 => first | exact BindsTo.of_eq rfl | exact binds_K (by k_in) rfl (by k_is) rfl rfl rfl | fail "enter: no rule for these arguments"); (case c5 => decide); (case kB => exact locs rfl); (case c2 => exact rfl); (case c3 => exact rfl); (case c4 => exact rfl)))
  intro g' L' h' FG' F' N' B' X' T' l1
  clear F N FG'
  subst hdn
  (repeat' (first | (k_unfold; (try dsimp only)) | (first | (with_reducible first | ((show (_ : Flow → Shared → Prop) _ _); rename Flow → Shared → Prop => K9; rename KR K9 _ => kr9; rename KN K9 _ => kn9; (first | refine kn9 _ ?_ | refine kr9.ret _ _ ?_ | refine kr9.brk _ ?_ | refine kr9.cont _ ?_); clear kn9 kr9 K9; (try dsimp only)) | ((show (_ : Flow → Shared → Prop) _ _); (first | refine kn_go (by assumption) ?_ | refine kr_go (by assumption) ?_); (try dsimp only)) | ((show (_ : Bool → Shared → Prop) _ _); rename Bool → Shared → Prop => K9; rename KT K9 _ => kb9; refine kb9 _ _ ?_; clear kb9 K9; (try dsimp only)))) | ((with_reducible show wpC _ _ _ _ _ _); (first | ((with_reducible show wpC _ _ (call (Value.type "enumerate") _ _) _ _ _); (refine wpC_any (call_enum_bytes (by assumption) (by assumption) ?_)); intro _ _ _ _ _ _ _; (try k_sweep); (refine wpAny_pyIter_enum (News.get (by assumption) (.head _)) ?_)) | ((with_reducible show wpC _ _ (exec (Stmt.For _ _ _ _ _) _) _ _ _); (refine exec_For_C ?_)) | (((with_reducible show wpC _ _ (execs (_ :: _) _) _ _ _); refine execs_cons_G ?_; intro _ _ _)) | (((with_reducible show wpC _ _ (eval (Expr.Call (Expr.Name _ _) _ _ _) _) _ _ _); refine eval_CallName_C ?_)) | (((with_reducible show wpC _ _ (callWith _ (Value.type _) _ _ _) _ _ _); first | refine callWith_CT0 ?_ | refine callWith_CT (wpC_any ?_))))) | (dsimp only; (with_reducible show wpC _ _ _ _ _ _)) | ((fail_if_success (with_reducible show wpC _ _ _ _ _ _)); (first | walk1 | (dsimp only; walk1)))))
  refine' forEnum_CM (l₀ := [(x, _), (dx, _), (o, _), (p, _)]) (rest := rest) hh rfl rfl rfl
    (fun i l₁ => ∃ st', EncAt w.params x false lf rc st' l₁ ∧ Enc.run rc st' (b.toList.drop i) = Enc.run rc ⟨out, tk, plain, sm, mn⟩ b.toList ∧ st'.out.size ≤ out.size + 400 * i ∧ st'.Ok) ?h0 (by k_asm) (by k_asm) ?nd ?l1 ?l2 ?step ?done
  case nd => (first | assumption | (refine nodup_join ?zqna ?zqnb ?zqnc; (case zqna => (simp only [List.map_cons, List.map_nil]; first | (simp only [List.nodup_cons, List.not_mem_nil, not_false_eq_true, List.nodup_nil, and_self]; done) | (refine nd2 ?_ <;> k_ne) | (refine nd3 ?_ ?_ ?_ <;> k_ne) | (refine nd4 ?_ ?_ ?_ ?_ ?_ ?_ <;> k_ne))); (case zqnb => (simp only [List.map_cons, List.map_nil]; walk_at "off")); (case zqnc => assumption)) | fail "nodup")
  case l1 => assumption
  case l2 => assumption
  case h0 => exact ⟨⟨out, tk, plain, sm, mn⟩, encAt_of, rfl, Nat.le_refl _, hk⟩
  case step =>
    rintro i c ti tc l₁ h tk₁ eo io hc ⟨⟨out1, tk1, plain1, sm1, mn1⟩, ⟨dx1, o1, p1, k1', rfl⟩, hr, hz1, ho1⟩ F₅ N₅ d₅
    have hlt : i < b.size := by
      rcases Nat.lt_or_ge i b.size with q | q
      · exact q
      · rw [Array.getElem?_eq_none q] at hc; cases hc
    have hc1 := c.toNat_lt
    obtain ⟨a1, a2, a3, a4, a5⟩ := id ho1
    dsimp only at hz1 a1 a2 a3 a4 a5
    simp only [List.cons_append, List.nil_append] at N₅
    have e1 := ownOff_of d₅
    have e2 := nodup_rest d₅
    have e3 := nodup_own d₅
    simp only [List.map_cons, List.map_nil] at e1 e3
    obtain ⟨_, _, _, _, _, _⟩ := ne4 e3
    clear e3
    obtain ⟨_, _, _, _, o8⟩ := un4 e1
    obtain ⟨_, _, _, _, o7⟩ := un4 o8
    replace F₅ : Fr g' L' h _ := F₅
    replace N₅ : News g' L' h _ := N₅
    (repeat' (first | (k_unfold; (try dsimp only)) | (first | (with_reducible first | ((show (_ : Flow → Shared → Prop) _ _); rename Flow → Shared → Prop => K9; rename KR K9 _ => kr9; rename KN K9 _ => kn9; (first | refine kn9 _ ?_ | refine kr9.ret _ _ ?_ | refine kr9.brk _ ?_ | refine kr9.cont _ ?_); clear kn9 kr9 K9; (try dsimp only)) | ((show (_ : Flow → Shared → Prop) _ _); (first | refine kn_go (by assumption) ?_ | refine kr_go (by assumption) ?_); (try dsimp only)) | ((show (_ : Bool → Shared → Prop) _ _); rename Bool → Shared → Prop => K9; rename KT K9 _ => kb9; refine kb9 _ _ ?_; clear kb9 K9; (try dsimp only)))) | ((with_reducible show wpC _ _ _ _ _ _); (first | ((with_reducible show wpC _ _ (call (Value.ref 158) _ _) _ _ _); (try dsimp only); (refine' use_encN (enc_takeT _ ?zqh1 ?zqh2 ?zqh3 ?zqh4 ?zqh5 ?zqh6 ?zqh7 ?zqh8) ?zqF ?zqN ?zqnd ?zqB ?zqX ?zqT ?zqA ?zqf ?zqk ?zqh ?zqd ?zqu ?_; (((case zqF => k_asm); (case zqN => (first | k_asm | (refine' drop1 ?zqn9; (case zqn9 => k_asm)) | (refine' drop2 ?zqn9; (case zqn9 => k_asm)) | (refine' drop3 ?zqn9; (case zqn9 => k_asm)) | (refine' drop4 ?zqn9; (case zqn9 => k_asm)))); (case zqnd => (first | assumption | (refine nodup_join ?zqna ?zqnb ?zqnc; (case zqna => (simp only [List.map_cons, List.map_nil]; first | (simp only [List.nodup_cons, List.not_mem_nil, not_false_eq_true, List.nodup_nil, and_self]; done) | (refine nd2 ?_ <;> k_ne) | (refine nd3 ?_ ?_ ?_ <;> k_ne) | (refine nd4 ?_ ?_ ?_ ?_ ?_ ?_ <;> k_ne))); (case zqnb => (simp only [List.map_cons, List.map_nil]; walk_at "off")); (case zqnc => assumption)) | fail "nodup")); (case zqB => k_asm); (case zqX => k_asm); (case zqT => k_asm); (case zqA => k_asm); (case zqf => exact rfl); (case zqk => exact rfl); (case zqh => assumption); (case zqd => (first | exact room2 (by assumption) (by decide) | exact room3 (by assumption) (by decide) | walk_at "om")); (case zqu => (first | exact room2 (by assumption) (by decide) | exact room3 (by assumption) (by decide) | walk_at "om")))); (case zqh1 => walk_at "om"); (case zqh2 => walk_at "szs"); (case zqh3 => walk_at "om"); (case zqh4 => walk_at "om"); (case zqh5 => walk_at "om"); (case zqh6 => walk_at "om"); (case zqh7 => walk_at "om"); (case zqh8 => walk_at "om")); intro _ _ _ _ _ _ _ _ _ _ _ _ _ _ _ _ _; (try k_sweep); dsimp only) | (((with_reducible show wpC _ _ (execs (_ :: _) _) _ _ _); refine execs_cons_G ?_; intro _ _ _)) | (((with_reducible show wpC _ _ (execs [] _) _ _ _); refine execs_nil_C ?_)) | (((with_reducible show wpC _ _ (exec (Stmt.If _ _ _ _) _) _ _ _); refine exec_If_G ?_; intro _ _)) | (((with_reducible show wpC _ _ (exec (Stmt.Expr _ _) _) _ _ _); refine exec_Expr_C ?_)) | (((with_reducible show wpC _ _ (eval (Expr.Call (Expr.Attribute _ _ _) _ _ _) _) _ _ _); refine eval_CallMeth_C ?_)) | (((with_reducible show wpC _ _ (callWith _ (Value.ref _) _ _ _) _ _ _); first | (refine' callWith_CK0 ?zqk1 ?zqk2 ?_; (case zqk1 => k_in); (case zqk2 => k_is)) | (refine' callWith_CK ?zqk1 ?zqk2 ?_; (case zqk1 => k_asm); (case zqk2 => k_is)))))) | (dsimp only; (with_reducible show wpC _ _ _ _ _ _)) | ((fail_if_success (with_reducible show wpC _ _ _ _ _ _)); (first | walk1 | (dsimp only; walk1)))))
    all_goals walk_at "ands"
    · refine' ⟨_, _, [(x, _), (_, _), (_, _), (_, _)], _, _, rfl, ?a, ?b, ?c, Enc.take rc ⟨out1, tk1, plain1, sm1, mn1⟩ c.toNat, ?d, ?e, ?f, ?g⟩
      case a => k_asm
      case b => k_asm
      case c => assumption
      case d => exact encAt_of
      case e => rw [← hr, drop_at hc]; rfl
      case f => exact Nat.le_trans (Enc.take_ok ho1 (by lia) (by lia)).2 (by dsimp only; lia)
      case g => exact (Enc.take_ok ho1 (by lia) (by lia)).1
  case done =>
    rintro h tk₁ l₁ ua ub ⟨⟨out1, tk1, plain1, sm1, mn1⟩, ⟨dx1, o1, p1, k1', rfl⟩, hr, hz1, ho1⟩ F₅ N₅ d₅
    obtain ⟨a1, a2, a3, a4, a5⟩ := id ho1
    dsimp only at hz1 a1 a2 a3 a4 a5
    simp only [List.cons_append, List.nil_append] at N₅
    have e1 := ownOff_of d₅
    have e2 := nodup_rest d₅
    have e3 := nodup_own d₅
    simp only [List.map_cons, List.map_nil] at e1 e3
    obtain ⟨_, _, _, _, _, _⟩ := ne4 e3
    clear e3
    replace F₅ : Fr g' L' h _ := F₅
    replace N₅ : News g' L' h _ := N₅
    dsimp only
    (repeat' (first | (k_unfold; (try dsimp only)) | (first | (with_reducible first | ((show (_ : Flow → Shared → Prop) _ _); rename Flow → Shared → Prop => K9; rename KR K9 _ => kr9; rename KN K9 _ => kn9; (first | refine kn9 _ ?_ | refine kr9.ret _ _ ?_ | refine kr9.brk _ ?_ | refine kr9.cont _ ?_); clear kn9 kr9 K9; (try dsimp only)) | ((show (_ : Flow → Shared → Prop) _ _); (first | refine kn_go (by assumption) ?_ | refine kr_go (by assumption) ?_); (try dsimp only)) | ((show (_ : Bool → Shared → Prop) _ _); rename Bool → Shared → Prop => K9; rename KT K9 _ => kb9; refine kb9 _ _ ?_; clear kb9 K9; (try dsimp only)))) | ((with_reducible show wpC _ _ _ _ _ _); (first | ((with_reducible show wpC _ _ (call (Value.ref 82) _ _) _ _ _); (try dsimp only); (refine' use_encB (enc_toldT _ ?zqh2) ?zqF ?zqN ?zqnd ?zqB ?zqX ?zqT ?zqA ?zqf ?zqk ?zqh ?zqd ?zqu ?_; (((case zqF => k_asm); (case zqN => (first | k_asm | (refine' drop1 ?zqn9; (case zqn9 => k_asm)) | (refine' drop2 ?zqn9; (case zqn9 => k_asm)) | (refine' drop3 ?zqn9; (case zqn9 => k_asm)) | (refine' drop4 ?zqn9; (case zqn9 => k_asm)))); (case zqnd => (first | assumption | (refine nodup_join ?zqna ?zqnb ?zqnc; (case zqna => (simp only [List.map_cons, List.map_nil]; first | (simp only [List.nodup_cons, List.not_mem_nil, not_false_eq_true, List.nodup_nil, and_self]; done) | (refine nd2 ?_ <;> k_ne) | (refine nd3 ?_ ?_ ?_ <;> k_ne) | (refine nd4 ?_ ?_ ?_ ?_ ?_ ?_ <;> k_ne))); (case zqnb => (simp only [List.map_cons, List.map_nil]; walk_at "off")); (case zqnc => assumption)) | fail "nodup")); (case zqB => k_asm); (case zqX => k_asm); (case zqT => k_asm); (case zqA => k_asm); (case zqf => exact rfl); (case zqk => exact rfl); (case zqh => assumption); (case zqd => (first | exact room2 (by assumption) (by decide) | exact room3 (by assumption) (by decide) | walk_at "om")); (case zqu => (first | exact room2 (by assumption) (by decide) | exact room3 (by assumption) (by decide) | walk_at "om")))); (case zqh2 => walk_at "szs")); intro _ _ _ _ _ _ _ _ _ _ _ _ _ _ _ _ _ _; (try k_sweep); dsimp only) | (((with_reducible show wpC _ _ (execs (_ :: _) _) _ _ _); refine execs_cons_G ?_; intro _ _ _)) | (((with_reducible show wpC _ _ (exec (Stmt.Return (some (Expr.Call _ _ _ _)) _) _) _ _ _); refine exec_Return_C ?_)) | (((with_reducible show wpC _ _ (eval (Expr.Call (Expr.Attribute _ _ _) _ _ _) _) _ _ _); refine eval_CallMeth_C ?_)) | (((with_reducible show wpC _ _ (callWith _ (Value.ref _) _ _ _) _ _ _); first | (refine' callWith_CK0 ?zqk1 ?zqk2 ?_; (case zqk1 => k_in); (case zqk2 => k_is)) | (refine' callWith_CK ?zqk1 ?zqk2 ?_; (case zqk1 => k_asm); (case zqk2 => k_is)))))) | (dsimp only; (with_reducible show wpC _ _ _ _ _ _)) | ((fail_if_success (with_reducible show wpC _ _ _ _ _ _)); (first | walk1 | (dsimp only; walk1)))))
    all_goals walk_at "ands"
    rw [List.drop_eq_nil_of_le (by simp)] at hr
    rw [← hr] at ret
    refine' ret (.bytes out1 _) _ _ [(x, _), (_, _), (_, _), (_, _)] ?a ?b ?c ⟨⟨_, rfl⟩, ?d⟩
    case a => k_asm
    case b => k_asm
    case c => assumption
    case d => exact encAt_of
theorem enc_feedT (w : World) {x dx o p : Addr} {k1 k2 k3 k4 k5 k6 k7 k8 t2 t4 t5 t7 t8 : Tok} {dn : Bool} {lf out plain : Array UInt8} {rc tk sm mn : Int} {b : Array UInt8} {tb : Tok} (hdn : dn = false) (hk : Enc.Ok ⟨out, tk, plain, sm, mn⟩) (hz : out.size + 400 * b.size + 8000 ≤ 16777216) :
    Ctr w 6 68 [.ref x, .bytes b tb] [(x, instObj 189 dx), (dx, encL w.params k1 k2 k3 k4 k5 k6 k7 k8 t2 t4 t5 t7 t8 dn lf o rc tk p sm mn), (o, baObj out), (p, baObj plain)] (fun v l' => (∃ t, v = .bytes (Enc.run rc ⟨out, tk, plain, sm, mn⟩ b.toList).out t) ∧ EncAt w.params x false lf rc { Enc.run rc ⟨out, tk, plain, sm, mn⟩ b.toList with out := #[] } l') :=
  enc_feed w (zt := ⟨k1, k2, k3, k4, k5, k6, k7, k8, t2, t4, t5, t7, t8⟩) hdn hk hz
end
section
theorem begins_D10 : True := by
  w_top off
  exact trivial
theorem Enc.run_ok {rc : Int} : ∀ {l : List UInt8} {st : Enc}, st.Ok → (Enc.run rc st l).Ok ∧ (Enc.run rc st l).out.size ≤ st.out.size + 400 * l.length
  | [], _, h => ⟨h, Nat.le_refl _⟩
  | c :: r, st, h => by
    have hc := c.toNat_lt
    have h1 := Enc.take_ok (rc := rc) (n := c.toNat) h (by lia) (by lia)
    have h2 := Enc.run_ok (rc := rc) (l := r) h1.1
    refine ⟨h2.1, Nat.le_trans h2.2 ?_⟩
    have := h1.2
    simp only [List.length_cons]
    lia
def Enc.fin (st : Enc) : Array UInt8 := (cpOut (crOut st.out st.plain st.same st.many) (crPlain st.plain st.same st.many)).push 128
def encBytes (rc : Int) (b : Array UInt8) : Array UInt8 :=
  (Enc.run rc ⟨#[], 0, #[], 0, 0⟩ b.toList).out ++ Enc.fin { Enc.run rc ⟨#[], 0, #[], 0, 0⟩ b.toList with out := #[] }
theorem crOut0 {plain : Array UInt8} {sm mn : Int} (h : plain.size ≤ 128) : (crOut #[] plain sm mn).size ≤ 131 := by
  have := crOut_size (out := #[]) (plain := plain) (sm := sm) (mn := mn)
  simp only [List.size_toArray, List.length_nil] at this
  lia
theorem enc_over (w : World) {x dx o p : Addr} {zt : ETok} {dn : Bool} {lf out plain : Array UInt8} {rc tk sm mn : Int} {b : Array UInt8} {tb : Tok} (hdn : dn = false) (hk : Enc.Ok ⟨out, tk, plain, sm, mn⟩) (hz : out.size + 400 * b.size + 20000 ≤ 16777216) :
    Ctr w 8 103 [.ref x, .bytes b tb] [(x, instObj 189 dx), (dx, encD w.params zt dn lf o rc tk p sm mn), (o, baObj out), (p, baObj plain)] (fun v l' => ∃ tt t1 t2, v = .ref tt ∧ l' = [(tt, { cls := .type "tuple", data := .seq #[.bytes ((Enc.run rc ⟨out, tk, plain, sm, mn⟩ b.toList).out ++ Enc.fin { Enc.run rc ⟨out, tk, plain, sm, mn⟩ b.toList with out := #[] }) t1, .bytes lf t2] })]) := by
  intro A A₀ base h₀ outer L m mg mb env pg loose mean rest s R B F X₀ LD T hA hf hke hh hd hu ret
  obtain ⟨N, nd⟩ := LD
  ((rename List.Nodup _ => nd9; have e1 := ownOff_of nd9; have e2 := nodup_rest nd9; have e3 := nodup_own nd9; simp only [List.map_cons, List.map_nil] at e1 e3; obtain ⟨_, _, _, _, _, _⟩ := ne4 e3; clear e3))
  simp only [List.cons_append, List.nil_append] at N
  revert X₀; k_fill; intro X₀
  refine' def_C (binds := [(Str.ofString "coder", .ref x), (Str.ofString "octets", .bytes b tb)]) B F X₀ N T hA hf hke ?k6 ?k7 ?k8 ?k9 ?kB ?_ ?c2 ?c3 ?c4 ?c5
  (( (case k6 => k_is); (case k7 => k_is); (case k8 => walk_at "om"); (case k9 => first | exact BindsTo.of_eq rfl | exact binds_K (by k_in) rfl (by k_is) rfl rfl rfl | fail "enter: no rule for these arguments"); (case c5 => decide); (case kB => exact locs rfl); (case c2 => exact rfl); (case c3 => exact rfl); (case c4 => exact rfl)))
  intro g' L' h' FG' F' N' B' X' T' l1
  clear F N FG'
  subst hdn
  obtain ⟨⟨a1, a2, a3, a4, a5⟩, a6⟩ := Enc.run_ok (rc := rc) (l := b.toList) hk
  have z8 := crOut0 (sm := (Enc.run rc ⟨out, tk, plain, sm, mn⟩ b.toList).same) (mn := (Enc.run rc ⟨out, tk, plain, sm, mn⟩ b.toList).many) a1
  have z7 := crPlain_size (sm := (Enc.run rc ⟨out, tk, plain, sm, mn⟩ b.toList).same) a4 a1
  have z6 := cpOut_size (crOut #[] (Enc.run rc ⟨out, tk, plain, sm, mn⟩ b.toList).plain (Enc.run rc ⟨out, tk, plain, sm, mn⟩ b.toList).same (Enc.run rc ⟨out, tk, plain, sm, mn⟩ b.toList).many) (crPlain (Enc.run rc ⟨out, tk, plain, sm, mn⟩ b.toList).plain (Enc.run rc ⟨out, tk, plain, sm, mn⟩ b.toList).same (Enc.run rc ⟨out, tk, plain, sm, mn⟩ b.toList).many)
  simp only [Array.length_toList] at a6
  (repeat' (first | (k_unfold; (try dsimp only)) | (first | (with_reducible first | ((show (_ : Flow → Shared → Prop) _ _); rename Flow → Shared → Prop => K9; rename KR K9 _ => kr9; rename KN K9 _ => kn9; (first | refine kn9 _ ?_ | refine kr9.ret _ _ ?_ | refine kr9.brk _ ?_ | refine kr9.cont _ ?_); clear kn9 kr9 K9; (try dsimp only)) | ((show (_ : Flow → Shared → Prop) _ _); (first | refine kn_go (by assumption) ?_ | refine kr_go (by assumption) ?_); (try dsimp only)) | ((show (_ : Bool → Shared → Prop) _ _); rename Bool → Shared → Prop => K9; rename KT K9 _ => kb9; refine kb9 _ _ ?_; clear kb9 K9; (try dsimp only)))) | ((with_reducible show wpC _ _ _ _ _ _); (first | ((with_reducible show wpC _ _ (call (Value.ref 75) _ _) _ _ _); (try dsimp only); (refine' use_encB (enc_finishT _ ?zqh1 ?zqh2 ?zqh3 ?zqh4 ?zqh5 ?zqh6 ?zqh7) ?zqF ?zqN ?zqnd ?zqB ?zqX ?zqT ?zqA ?zqf ?zqk ?zqh ?zqd ?zqu ?_; (((case zqF => k_asm); (case zqN => (first | k_asm | (refine' drop1 ?zqn9; (case zqn9 => k_asm)) | (refine' drop2 ?zqn9; (case zqn9 => k_asm)) | (refine' drop3 ?zqn9; (case zqn9 => k_asm)) | (refine' drop4 ?zqn9; (case zqn9 => k_asm)))); (case zqnd => (first | assumption | (refine nodup_join ?zqna ?zqnb ?zqnc; (case zqna => (simp only [List.map_cons, List.map_nil]; first | (simp only [List.nodup_cons, List.not_mem_nil, not_false_eq_true, List.nodup_nil, and_self]; done) | (refine nd2 ?_ <;> k_ne) | (refine nd3 ?_ ?_ ?_ <;> k_ne) | (refine nd4 ?_ ?_ ?_ ?_ ?_ ?_ <;> k_ne))); (case zqnb => (simp only [List.map_cons, List.map_nil]; walk_at "off")); (case zqnc => assumption)) | fail "nodup")); (case zqB => k_asm); (case zqX => k_asm); (case zqT => k_asm); (case zqA => k_asm); (case zqf => exact rfl); (case zqk => exact rfl); (case zqh => assumption); (case zqd => (first | exact room2 (by assumption) (by decide) | exact room3 (by assumption) (by decide) | walk_at "om")); (case zqu => (first | exact room2 (by assumption) (by decide) | exact room3 (by assumption) (by decide) | walk_at "om")))); (case zqh1 => rfl); (case zqh2 => walk_at "om"); (case zqh3 => walk_at "szs"); (case zqh4 => walk_at "om"); (case zqh5 => walk_at "om"); (case zqh6 => walk_at "om"); (case zqh7 => walk_at "om")); intro _ _ _ _ _ _ _ _ _ _ _ _ _ _ _ _ _ _; (try k_sweep); dsimp only) | ((with_reducible show wpC _ _ (call (Value.ref 68) _ _) _ _ _); (try dsimp only); (refine' use_encB (enc_feedT _ ?zqh1 ?zqh2 ?zqh3) ?zqF ?zqN ?zqnd ?zqB ?zqX ?zqT ?zqA ?zqf ?zqk ?zqh ?zqd ?zqu ?_; (((case zqF => k_asm); (case zqN => (first | k_asm | (refine' drop1 ?zqn9; (case zqn9 => k_asm)) | (refine' drop2 ?zqn9; (case zqn9 => k_asm)) | (refine' drop3 ?zqn9; (case zqn9 => k_asm)) | (refine' drop4 ?zqn9; (case zqn9 => k_asm)))); (case zqnd => (first | assumption | (refine nodup_join ?zqna ?zqnb ?zqnc; (case zqna => (simp only [List.map_cons, List.map_nil]; first | (simp only [List.nodup_cons, List.not_mem_nil, not_false_eq_true, List.nodup_nil, and_self]; done) | (refine nd2 ?_ <;> k_ne) | (refine nd3 ?_ ?_ ?_ <;> k_ne) | (refine nd4 ?_ ?_ ?_ ?_ ?_ ?_ <;> k_ne))); (case zqnb => (simp only [List.map_cons, List.map_nil]; walk_at "off")); (case zqnc => assumption)) | fail "nodup")); (case zqB => k_asm); (case zqX => k_asm); (case zqT => k_asm); (case zqA => k_asm); (case zqf => exact rfl); (case zqk => exact rfl); (case zqh => assumption); (case zqd => (first | exact room2 (by assumption) (by decide) | exact room3 (by assumption) (by decide) | walk_at "om")); (case zqu => (first | exact room2 (by assumption) (by decide) | exact room3 (by assumption) (by decide) | walk_at "om")))); (case zqh1 => rfl); (case zqh2 => assumption); (case zqh3 => walk_at "szs")); intro _ _ _ _ _ _ _ _ _ _ _ _ _ _ _ _ _ _; (try k_sweep); dsimp only) | (((with_reducible show wpC _ _ (exec (Stmt.Return (some (Expr.Tuple _ _ _)) _) _) _ _ _); refine exec_Return_C ?_)) | (((with_reducible show wpC _ _ (eval (Expr.Tuple _ _ _) _) _ _ _); refine eval_Tuple_C ?_)) | (((with_reducible show wpC _ _ (eval (Expr.BinOp _ _ _ _) _) _ _ _); refine eval_BinOp_C ?_)) | (((with_reducible show wpC _ _ (eval (Expr.Name _ _) _) _ _ _); refine wpC_any ?_)) | (((with_reducible show wpC _ _ (eval (Expr.Attribute _ _ _) _) _ _ _); refine wpC_any ?_)) | (((with_reducible show wpC _ _ (ite (false = true) _ _) _ _ _); refine wpC_ite_f Bool.false_ne_true ?_)) | (((with_reducible show wpC _ _ (spliced _) _ _ _); show wpC _ _ (spliced ((false, _) :: _)) _ _ _; refine spliced_cons_C ?_)) | (((with_reducible show wpC _ _ (spliced _) _ _ _); show wpC _ _ (spliced []) _ _ _; refine spliced_nil_C ?_)) | (((with_reducible show wpC _ _ (execs (_ :: _) _) _ _ _); refine execs_cons_G ?_; intro _ _ _)) | (((with_reducible show wpC _ _ (exec (Stmt.Assign [Expr.Name _ _] (Expr.Call _ _ _ _) _) _) _ _ _); refine exec_AssignName_C ?_)) | (((with_reducible show wpC _ _ (eval (Expr.Call (Expr.Attribute _ _ _) _ _ _) _) _ _ _); refine eval_CallMeth_C ?_)) | (((with_reducible show wpC _ _ (callWith _ (Value.ref _) _ _ _) _ _ _); first | (refine' callWith_CK0 ?zqk1 ?zqk2 ?_; (case zqk1 => k_in); (case zqk2 => k_is)) | (refine' callWith_CK ?zqk1 ?zqk2 ?_; (case zqk1 => k_asm); (case zqk2 => k_is)))))) | (dsimp only; (with_reducible show wpC _ _ _ _ _ _)) | ((fail_if_success (with_reducible show wpC _ _ _ _ _ _)); (first | walk1 | (dsimp only; walk1)))))
  all_goals walk_at "ands"
  all_goals (refine' ret (.ref _) _ _ [(_, _)] ?a ?b ?c ⟨_, _, _, rfl, ?d⟩; (case a => k_asm); (case b => refine' hd4 ?n; (case n => k_asm)); (case c => (refine nodup_join ?na ?nb ?nc; (case na => exact nd1); (case nb => (refine ownOff_cons ?oa ownOff_nil; exact allLt_ne (by assumption))); (case nc => assumption))); (case d => rfl))
theorem enc_overT (w : World) {x dx o p : Addr} {k1 k2 k3 k4 k5 k6 k7 k8 t2 t4 t5 t7 t8 : Tok} {dn : Bool} {lf out plain : Array UInt8} {rc tk sm mn : Int} {b : Array UInt8} {tb : Tok} (hdn : dn = false) (hk : Enc.Ok ⟨out, tk, plain, sm, mn⟩) (hz : out.size + 400 * b.size + 20000 ≤ 16777216) :
    Ctr w 8 103 [.ref x, .bytes b tb] [(x, instObj 189 dx), (dx, encL w.params k1 k2 k3 k4 k5 k6 k7 k8 t2 t4 t5 t7 t8 dn lf o rc tk p sm mn), (o, baObj out), (p, baObj plain)] (fun v l' => ∃ tt t1 t2, v = .ref tt ∧ l' = [(tt, { cls := .type "tuple", data := .seq #[.bytes ((Enc.run rc ⟨out, tk, plain, sm, mn⟩ b.toList).out ++ Enc.fin { Enc.run rc ⟨out, tk, plain, sm, mn⟩ b.toList with out := #[] }) t1, .bytes lf t2] })]) :=
  enc_over w (zt := ⟨k1, k2, k3, k4, k5, k6, k7, k8, t2, t4, t5, t7, t8⟩) hdn hk hz
theorem encoded (w : World) {b : Array UInt8} {tb tr : Tok} {rc : Int} (hz : 400 * b.size + 20000 ≤ 16777216) :
    Ctr w 10 206 [.bytes b tb, .int rc tr] [] (fun v l' => l' = [] ∧ ∃ t, v = .bytes (encBytes rc b) t) := by
  intro A A₀ base h₀ outer L m mg mb env pg loose mean rest s R B F X₀ LD T hA hf hke hh hd hu ret
  obtain ⟨N, nd⟩ := LD
  have e1 := ownOff_of nd
  have e2 := nodup_rest nd
  simp only [List.nil_append] at N
  revert X₀; k_fill; intro X₀
  refine' def_C (binds := [(Str.ofString "octets", .bytes b tb), (Str.ofString "record", .int rc tr)]) B F X₀ N T hA hf hke ?k6 ?k7 ?k8 ?k9 ?kB ?_ ?c2 ?c3 ?c4 ?c5
  (( (case k6 => k_is); (case k7 => k_is); (case k8 => walk_at "om"); (case k9 => first | exact BindsTo.of_eq rfl | exact binds_K (by k_in) rfl (by k_is) rfl rfl rfl | fail "enter: no rule for these arguments"); (case c5 => decide); (case kB => exact locs rfl); (case c2 => exact rfl); (case c3 => exact rfl); (case c4 => exact rfl)))
  intro g' L' h' FG' F' N' B' X' T' l1
  clear F N FG'
  (repeat' (first | (k_unfold; (try dsimp only)) | (first | (with_reducible first | ((show (_ : Flow → Shared → Prop) _ _); rename Flow → Shared → Prop => K9; rename KR K9 _ => kr9; rename KN K9 _ => kn9; (first | refine kn9 _ ?_ | refine kr9.ret _ _ ?_ | refine kr9.brk _ ?_ | refine kr9.cont _ ?_); clear kn9 kr9 K9; (try dsimp only)) | ((show (_ : Flow → Shared → Prop) _ _); (first | refine kn_go (by assumption) ?_ | refine kr_go (by assumption) ?_); (try dsimp only)) | ((show (_ : Bool → Shared → Prop) _ _); rename Bool → Shared → Prop => K9; rename KT K9 _ => kb9; refine kb9 _ _ ?_; clear kb9 K9; (try dsimp only)))) | ((with_reducible show wpC _ _ _ _ _ _); (first | ((with_reducible show wpC _ _ (call (Value.ref 103) _ _) _ _ _); (try dsimp only); (refine' use_ctr2 (enc_overT _ ?zqh1 ?zqh2 ?zqh3) ?zqF ?zqN ?zqnd ?zqB ?zqX ?zqT ?zqA ?zqf ?zqk ?zqh ?zqd ?zqu ?_; (((case zqF => k_asm); (case zqN => (first | k_asm | (refine' drop1 ?zqn9; (case zqn9 => k_asm)) | (refine' drop2 ?zqn9; (case zqn9 => k_asm)) | (refine' drop3 ?zqn9; (case zqn9 => k_asm)) | (refine' drop4 ?zqn9; (case zqn9 => k_asm)))); (case zqnd => (first | assumption | (refine nodup_join ?zqna ?zqnb ?zqnc; (case zqna => (simp only [List.map_cons, List.map_nil]; first | (simp only [List.nodup_cons, List.not_mem_nil, not_false_eq_true, List.nodup_nil, and_self]; done) | (refine nd2 ?_ <;> k_ne) | (refine nd3 ?_ ?_ ?_ <;> k_ne) | (refine nd4 ?_ ?_ ?_ ?_ ?_ ?_ <;> k_ne))); (case zqnb => (simp only [List.map_cons, List.map_nil]; walk_at "off")); (case zqnc => assumption)) | fail "nodup")); (case zqB => k_asm); (case zqX => k_asm); (case zqT => k_asm); (case zqA => k_asm); (case zqf => exact rfl); (case zqk => exact rfl); (case zqh => assumption); (case zqd => (first | exact room2 (by assumption) (by decide) | exact room3 (by assumption) (by decide) | walk_at "om")); (case zqu => (first | exact room2 (by assumption) (by decide) | exact room3 (by assumption) (by decide) | walk_at "om")))); (case zqh1 => rfl); (case zqh2 => exact ⟨Nat.zero_le _, Int.le_refl _, by decide, Int.le_refl _, by decide⟩); (case zqh3 => walk_at "szs")); intro _ _ _ _ _ N' nd' hp'; obtain ⟨_, _, _, q1, q3⟩ := hp'; subst q1; subst q3; (try k_sweep); (try dsimp only at N' nd'); (try simp only [List.cons_append, List.nil_append] at N'); (rename List.Nodup _ => nd9); (have e1 := ownOff_of nd9); (have e2 := nodup_rest nd9); (simp only [List.map_cons, List.map_nil] at e1); dsimp only) | ((with_reducible show wpC _ _ (callWith _ (Value.ref 103) _ _ _) _ _ _); refine' callWith_CC ?zqk1 ?zqk2 ?_; (case zqk1 => k_asm); (case zqk2 => k_is)) | ((with_reducible show wpC _ _ (call (Value.ref 189) _ _) _ _ _); (try dsimp only); (refine' use_makeE ?zqF ?zqN ?zqnd ?zqB ?zqX ?zqT ?zqA ?zqf ?zqk ?zqh ?zqd ?zqu ?_; (case zqF => k_asm); (case zqN => k_asm); (case zqnd => (first | assumption | (refine nodup_join ?zqna ?zqnb ?zqnc; (case zqna => (simp only [List.map_cons, List.map_nil]; first | (simp only [List.nodup_cons, List.not_mem_nil, not_false_eq_true, List.nodup_nil, and_self]; done) | (refine nd2 ?_ <;> k_ne) | (refine nd3 ?_ ?_ ?_ <;> k_ne) | (refine nd4 ?_ ?_ ?_ ?_ ?_ ?_ <;> k_ne))); (case zqnb => (simp only [List.map_cons, List.map_nil]; walk_at "off")); (case zqnc => assumption)) | fail "nodup")); (case zqB => k_asm); (case zqX => k_asm); (case zqT => k_asm); (case zqA => k_asm); (case zqf => exact rfl); (case zqk => exact rfl); (case zqh => assumption); (case zqd => (first | exact room2 (by assumption) (by decide) | exact room3 (by assumption) (by decide) | walk_at "om")); (case zqu => (first | exact room2 (by assumption) (by decide) | exact room3 (by assumption) (by decide) | walk_at "om"))); intro _ _ _ _ _ _ _ _ _ _ _ _ _ _ _ _ _ _; (try k_sweep); dsimp only) | (((with_reducible show wpC _ _ (exec (Stmt.Return (some (Expr.Subscript _ _ _)) _) _) _ _ _); refine exec_Return_C ?_)) | (((with_reducible show wpC _ _ (eval (Expr.Subscript _ _ _) _) _ _ _); refine eval_Subscript_C ?_)) | (((with_reducible show wpC _ _ (eval (Expr.Name _ _) _) _ _ _); refine wpC_any ?_)) | (((with_reducible show wpC _ _ (ite (false = true) _ _) _ _ _); refine wpC_ite_f Bool.false_ne_true ?_)) | (((with_reducible show wpC _ _ (spliced _) _ _ _); show wpC _ _ (spliced ((false, _) :: _)) _ _ _; refine spliced_cons_C ?_)) | (((with_reducible show wpC _ _ (spliced _) _ _ _); show wpC _ _ (spliced []) _ _ _; refine spliced_nil_C ?_)) | (((with_reducible show wpC _ _ (execs (_ :: _) _) _ _ _); refine execs_cons_G ?_; intro _ _ _)) | (((with_reducible show wpC _ _ (eval (Expr.Call (Expr.Name _ _) _ _ _) _) _ _ _); refine eval_CallName_C ?_)) | (((with_reducible show wpC _ _ (callWith _ (Value.ref _) _ _ _) _ _ _); first | (refine' callWith_CK0 ?zqk1 ?zqk2 ?_; (case zqk1 => k_in); (case zqk2 => k_is)) | (refine' callWith_CK ?zqk1 ?zqk2 ?_; (case zqk1 => k_asm); (case zqk2 => k_is)))))) | (dsimp only; (with_reducible show wpC _ _ _ _ _ _)) | ((fail_if_success (with_reducible show wpC _ _ _ _ _ _)); (first | walk1 | (dsimp only; walk1)))))
  all_goals walk_at "ands"
  all_goals (refine' ret (.bytes _ _) _ _ [] ?a ?b ?c ⟨rfl, _, ?d⟩; (case a => k_asm); (case b => refine' drop1 ?n; (case n => k_asm)); (case c => assumption); (case d => rfl))
end
local macro_rules | `(tactic| walk_at "subscriptTail") => `(tactic| (k_here; (with_reducible show wpAny _ _ (subscriptTail _ _ (Value.ref _) (Value.str _ _)) _ _ _); refine kda_item (knd := PySem.strKind _ _) (by k_asm) (by k_mem) (by assumption) (strKind_is _ _ _ _) (by rfl) ?_))
local macro_rules | `(tactic| walk_at "setItem ref str") => `(tactic| (k_here; (refine' kda_set (knd := PySem.strKind _ _) ?F ?N ?U ?d (strKind_is _ _ _ _) ?z ?_; (case F => k_asm); (case N => k_asm); (case U => k_updF); (case d => assumption); (case z => rw [sizeLine_eq]; exact Nat.le_of_ble_eq_true (by with_unfolding_all rfl))); intro h' o' F' N' hd'; (try dsimp only at N')))
local macro_rules | `(tactic| walk_at "unpackItems ref") => `(tactic| (k_here; (refine' unpackItemsN_ ?k1 ?k2 ?k3 ?k4 ?k5 ?_; (case k1 => k_asm); (case k2 => k_asm); (case k3 => kun_tup); (case k4 => assumption); (case k5 => exact rfl)); intro h' F' N'; (try k_sweep)))
section
theorem begins_L1 : True := by
  w_top off
  exact trivial
/-- the cells of a deck -/
structure Cells (vs : List Value) (ns : List Int) : Prop where
  cInts : IntsAre vs ns
  cRng : ∀ n ∈ ns, 0 ≤ n ∧ n < 1000000007
  cShort : ns.length ≤ 60
abbrev DeckO (w : World) (c : Addr) (at_ : Int) (t : Tok) (o : Obj) : Prop := o.IsDictOf (strKind PySem.Challenge.rw_nt0489_01.row.prog w) [(Str.ofString "cells", .ref c), (Str.ofString "at", .int at_ t)]
theorem item_int {prog : Program} {w : World} {A : Around} {E : Value → Shared → Prop} {s : Shared} {value slice : PySem.Expr} {l : Addr} {vs : List Value} {ns : List Int} {k b : Int} {u : Tok} {Q : Value → Shared → Prop}
    (hl : s.heap.IsList l vs.toArray) (hi : IntsAre vs ns) (hr : ∀ n ∈ ns, 0 ≤ n ∧ n < b) (h0 : 0 ≤ k) (h1 : k < ns.length) (hz : ns.length ≤ 1000000) (h : ∀ n t, (0 ≤ n ∧ n < b) → Q (.int n t) s)
    (hs : subscripted slice false (.ref l) (.int k u) = operate [.ref l, .int k u] (getItem (.ref l) (.int k u)) := by with_unfolding_all rfl) :
    wpAny (model prog w) A (subscriptTail value slice (.ref l) (.int k u)) Q E s := by
  have hlen := hi.length
  have hk : k.toNat < vs.length := by lia
  obtain ⟨n, t, hv, hn⟩ := IntsAre.at hi k.toNat _ (List.getElem?_eq_getElem hk)
  exact tail_any hl.typeIs slot_list_getitem.lookup (wpAny_getItem_list hl h0 (by lia) (x := .int n t) (by rw [← hv]; simp [hk]) (h n t (hr n (List.mem_of_getElem? hn)))) hs
theorem fmod_pos {a b : Int} (h : 0 < b) : 0 ≤ a.fmod b := by rw [Int.fmod_eq_emod_of_nonneg _ (Int.le_of_lt h)]; exact Int.emod_nonneg _ (by lia)
theorem len_pos_ne {ns : List Int} (h : decide (ns = []) = false) : 0 < (ns.length : Int) := by
  have h := of_decide_eq_false h
  cases ns with
  | nil => exact absurd rfl h
  | cons _ _ => simp only [List.length_cons]; lia
local macro_rules | `(tactic| walk_at "subscriptTail") => `(tactic| (k_here; (with_reducible show wpAny _ _ (subscriptTail _ _ (Value.ref _) (Value.int (Int.fmod _ _) _)) _ _ _); (refine' item_int ?l ?i ?r ?h0 ?h1 ?z ?_; (case l => exact News.isList (by k_asm) (by k_mem)); (case i => assumption); (case r => assumption); (case h0 => exact fmod_pos (len_pos_ne (by assumption))); (case h1 => exact Int.fmod_lt_of_pos _ (len_pos_ne (by assumption))); (case z => walk_at "om")); intro n9 t9 hn9))
theorem draw (w : World) {d c : Addr} {t tb : Tok} {o : Obj} {vs : List Value} {ns : List Int} {cap : Nat} {at_ below : Int} (hC : Cells vs ns) (hd0 : DeckO w c at_ t o) (lo : (d == sysModules) = false) (ha : 0 ≤ at_) (ha' : at_ ≤ 1000) (hb : 1 ≤ below) (hb' : below ≤ 1000000) :
    Ctr w 10 218 [.ref d, .int below tb] [(d, o), (c, listOf vs.toArray cap)]
      (fun v l' => ∃ x t1 t2 o', v = .int x t1 ∧ (0 ≤ x ∧ x < below) ∧ DeckO w c (at_ + 1) t2 o' ∧ l' = [(d, o'), (c, listOf vs.toArray cap)]) := by
  intro A A₀ base h₀ outer L m mg mb env p loose mean rest s R B F X₀ LD T hA hf hke hh hd hu ret
  obtain ⟨N, nd⟩ := LD
  obtain ⟨hi, hr, hs⟩ := hC
  have e1 := ownOff_of nd
  have e2 := nodup_rest nd
  have e3 := nodup_own nd
  simp only [List.map_cons, List.map_nil] at e1 e3
  have e4 := ne2 e3
  simp only [List.cons_append, List.nil_append] at N
  revert X₀; k_fill; intro X₀
  refine' def_C (binds := [(Str.ofString "deck", .ref d), (Str.ofString "below", .int below tb)]) B F X₀ N T hA hf hke ?k6 ?k7 ?k8 ?k9 ?kB ?_ ?c2 ?c3 ?c4 ?c5
  (( (case k6 => k_is); (case k7 => k_is); (case k8 => walk_at "om"); (case k9 => first | exact BindsTo.of_eq rfl | exact binds_K (by k_in) rfl (by k_is) rfl rfl rfl | fail "enter: no rule for these arguments"); (case c5 => decide); (case kB => exact locs rfl); (case c2 => exact rfl); (case c3 => exact rfl); (case c4 => exact rfl)))
  intro g' L' h' FG' F' N' B' X' T' l1
  clear F N FG'
  (repeat' (first | (k_unfold; (try dsimp only)) | (first | (with_reducible first | ((show (_ : Flow → Shared → Prop) _ _); rename Flow → Shared → Prop => K9; rename KR K9 _ => kr9; rename KN K9 _ => kn9; (first | refine kn9 _ ?_ | refine kr9.ret _ _ ?_ | refine kr9.brk _ ?_ | refine kr9.cont _ ?_); clear kn9 kr9 K9; (try dsimp only)) | ((show (_ : Flow → Shared → Prop) _ _); (first | refine kn_go (by assumption) ?_ | refine kr_go (by assumption) ?_); (try dsimp only)) | ((show (_ : Bool → Shared → Prop) _ _); rename Bool → Shared → Prop => K9; rename KT K9 _ => kb9; refine kb9 _ _ ?_; clear kb9 K9; (try dsimp only)))) | ((with_reducible show wpC _ _ _ _ _ _); (first | (((with_reducible show wpC _ _ (execs (_ :: _) _) _ _ _); refine execs_cons_G ?_; intro _ _ _)) | (((with_reducible show wpC _ _ (execs [] _) _ _ _); refine execs_nil_C ?_)) | (((with_reducible show wpC _ _ (exec (Stmt.If _ _ _ _) _) _ _ _); refine exec_If_G ?_; intro _ _)) | (((with_reducible show wpC _ _ (exec _ _) _ _ _); refine wpC_any ?_)))) | (dsimp only; (with_reducible show wpC _ _ _ _ _ _)) | ((fail_if_success (with_reducible show wpC _ _ _ _ _ _)); (first | walk1 | (dsimp only; walk1)))))
  all_goals (refine' ret (.int _ _) _ _ [(d, _), (c, _)] ?a ?b ?c ⟨_, _, _, _, rfl, ⟨?e, ?f⟩, ?g, rfl⟩; (case a => k_asm); (case b => (first | k_asm | (refine' drop1 ?zqn9; (case zqn9 => k_asm)) | (refine' drop2 ?zqn9; (case zqn9 => k_asm)) | (refine' drop3 ?zqn9; (case zqn9 => k_asm)) | (refine' drop4 ?zqn9; (case zqn9 => k_asm)))); (case c => exact nd); (case e => exact fmod_pos (by lia)); (case f => exact Int.fmod_lt_of_pos _ (by lia)); (case g => assumption))
end
section
open Sem (wp)
open PyProof.Rows.LCg (NsObj lst ns_obj lst_snoc fr_but news_but)
section
variable {prog : Program} {w : World} {A : Around} {E : Value → Shared → Prop} {s : Shared} {R : Result → Shared → Prop} {env : Env}
theorem wpC_ite {α : Type} {M : Model} {c : Prop} [Decidable c] {a b : Sem α} {Q : α → Shared → Prop} (h : if c then wpC M A a Q E s else wpC M A b Q E s) : wpC M A (if c then a else b) Q E s := by
  split <;> simp_all
theorem compLoop_C {elt target iter : Expr} {scope : Scope} {pos : Pos} {it acc : Value} {env : Env} (I : Nat → Shared → Prop)
    (turn : ∀ n s, I n s → wpAny (model prog w) A (pyNext it) (fun r s₁ => match r with
      | none => R (.ok .next) s₁
      | some v => wpAny (model prog w) A (assign target env v) (fun _ s₂ => wpC (model prog w) A (eval elt env) (fun x s₄ =>
              wpAny (model prog w) A (call (.builtin "list.append") [acc, x]) (fun _ s₅ => ∃ m, m < n ∧ I m s₅) (fun _ _ => False) s₄) (fun _ _ => False) s₂) (fun _ _ => False) s₁) (fun _ _ => False) s)
    (n : Nat) (h : I n s) (ht : ∀ v, letOwnedTupleGo target it v = pure () := by intro _; rfl) :
    codeC (model prog w) A (.compLoop (.ListComp elt [⟨target, iter, [], 0⟩] scope pos) 0 it acc env) R s := by
  refine codeC_loop rfl rfl I (fun n s hI => ?_) n h
  have hu : A.under (.compLoop (.ListComp elt [⟨target, iter, [], 0⟩] scope pos) 0 it acc env) = A := Around.under_of_weight rfl
  rw [hu]
  show wpC _ A ((compTurn (.ListComp elt [⟨target, iter, [], 0⟩] scope pos) 0 it acc env).onRaise (fun x => do noteFrame x env; theTreesLotGoes x)) _ _ s
  refine wpC_onRaise (wpC_mono (Q := fun (fin : Fin) s' => match fin with | .done f => R (.ok f) s' | .again c' => (c' = .compLoop (.ListComp elt [⟨target, iter, [], 0⟩] scope pos) 0 it acc env ∧ ∃ m, m < n ∧ I m s') ∨ (c'.quiet = true ∧ codeC (model prog w) A c' R s')) (E := fun _ _ => False) ?_ (fun _ _ x => x) fun _ _ x => x.elim)
  rw [compTurn_list1]
  refine wpC_bind (wpC_standAt (wpC_bindA (wpAny_mono (turn n s hI) (fun r s₁ h₁ => ?_) fun _ _ x => x)))
  cases r with
  | none => exact wpC_pure h₁
  | some v =>
    refine wpC_bindA (wpAny_of_eq (ht v) ?_)
    refine wpC_bindA (wpAny_mono h₁ (fun _ s₂ h₂ => ?_) fun _ _ x => x)
    refine wpC_bind (wpC_bind (wpC_mono h₂ (fun x s₄ h₄ => wpC_bindA (wpAny_mono h₄ (fun _ s₅ h₅ => wpC_pure (wpC_pure (.inl ⟨rfl, h₅⟩))) fun _ _ x => x)) fun _ _ x => x))
theorem compStart_C {elt target iter : Expr} {scope : Scope} {pos : Pos} {it acc : Value} {env : Env}
    (h0 : codeC (model prog w) A (.compLoop (.ListComp elt [⟨target, iter, [], 0⟩] scope pos) 0 it acc env) R s)
    (h : wpAny (model prog w) A (pyIter it) (fun it' s' => codeC (model prog w) A (.compLoop (.ListComp elt [⟨target, iter, [], 0⟩] scope pos) 0 it' acc env) R s') (fun _ _ => False) s) :
    codeC (model prog w) A (.compStart (.ListComp elt [⟨target, iter, [], 0⟩] scope pos) 0 it acc env) R s := by
  refine codeC_of_tree rfl ?_
  have hu : A.under (.compStart (.ListComp elt [⟨target, iter, [], 0⟩] scope pos) 0 it acc env) = A := Around.under_of_weight rfl
  rw [hu]
  show wpC _ A ((compStart (.ListComp elt [⟨target, iter, [], 0⟩] scope pos) 0 it acc env).onRaise (fun x => do noteFrame x env; standAt theWindowsPlace)) _ _ s
  refine wpC_onRaise (wpC_mono (Q := FinC (model prog w) A R) (E := fun _ _ => False) ?_ (fun _ _ x => x) fun _ _ x => x.elim)
  unfold compStart
  show wpC _ _ (ask >>= _) _ _ s
  refine wpC_bindA (wpAny_askSetting (wpC_ite ?_))
  split
  · first
      | exact wpC_bind (wpC_pure (wpC_pure (And.intro rfl h0)))
      | exact wpC_pure (And.intro rfl h0)
  · first
      | exact wpC_bind (wpC_rule (wpC_bind (wpC_standAt (wpC_bindA (wpAny_mono h (fun it' s' h' => wpC_pure (And.intro rfl h')) fun _ _ x => x)))))
      | (refine wpC_bind (wpC_rule ?_); show wpC _ _ (standAt iter.pos >>= _) _ _ s; exact wpC_bind (wpC_standAt (wpC_bindA (wpAny_mono h (fun it' s' h' => wpC_pure (And.intro rfl h')) fun _ _ x => x))))
theorem comprehension_C {M : Model} {e : Expr} {scope : Scope} {pos : Pos} {newAcc first : Sem Value} {g : Comprehension} {gs : List Comprehension} {cl : List (Str × Addr)} {Q : Value → Shared → Prop}
    (hcl : clausesOf e = g :: gs) (hs : ∀ x, foldedSetIterable g.iter env x = pure x) (hclos : closureFor scope env = pure cl)
    (hkind : scope.kind = .function) (hnames : ∀ x ∈ scope.names, x.2 = .local → scope.names.lookup x.1 = some .local)
    (h : wpC M A first (fun x s₁ => wpAny M A (pyIter x) (fun it s₂ => wpAny M A newAcc (fun acc s₃ =>
      wpAny M A (newFunctionEnv scope env.globals cl [] env.qual none .none (some env)) (fun cenv s₄ =>
        codeC M A (.compStart e 0 it acc { cenv with scope := relabel scope env }) (fun r s' => match r with
          | .ok _ => ∃ m, s'.heap.Ns cenv.locals m ∧ ∀ h', Heap.SameBut cenv.locals s'.heap h' → Q acc { s' with heap := h' }
          | .error _ => False) s₄) E s₃) E s₂) E s₁) E s) :
    wpC M A (comprehension e scope env pos newAcc false first none) Q E s := by
  unfold comprehension
  rw [hclos, hcl]
  refine wpC_bind (wpC_mono h (fun x s₁ h₁ => wpC_bind (wpC_standAt (wpC_bindA (wpAny_of_eq (hs x) (wpC_bindA (wpAny_holding (wpAny_mono h₁ (fun it s₂ h₂ => ?_) fun _ _ h' => h'))))))) fun _ _ h' => h')
  refine wpC_ite_f (by intro q; cases q) ?_
  refine wpC_bindA (wpAny_mono h₂ (fun acc s₃ h₃ => wpC_bind (wpC_pure (wpC_bindA (wpAny_mono h₃ (fun cenv s₄ h₄ => ?_) fun _ _ h' => h')))) fun _ _ h' => h')
  dsimp only
  have hv : ∀ x ∈ (scope.names.filter fun x => (x.2 == .local || x.2 == .cell) && x.1 != (".0" : Str)).reverse, x.2 = .local →
      Env.kindOf { cenv with scope := relabel scope env } x.1 = some .local := fun x hx hl => lookup_relabel_local (hnames x (List.mem_filter.mp (List.mem_reverse.mp hx)).1 hl)
  refine wpC_holding (wpC_bind (wpC_attempt (wpC_holding (wpC_run (h := none) (codeC_mono h₄ fun r s' hr => ?_)))))
  cases r with
  | ok f =>
    obtain ⟨m, hn, hr⟩ := hr
    exact wpC_bindA (wpAny_holding (wpAny_comp_letGo (cenv := { cenv with scope := relabel scope env }) hkind _ s' m hv hn fun h' m' _ hs' => wpC_pure (hr h' hs')))
  | error x => exact hr.elim
/-- the block of a comprehension, its turns in the logic of clean contexts -/
theorem block_C {elt iter : Expr} {x : Str} {px : Pos} {scope : Scope} {cl : List (Str × Addr)} {pos : Pos} {s₂ : Shared} {h₀ : Heap} {L : Addr} {m : Str → Option Value} {I : Addr} {fp : List Addr} {n : Nat} {P : Nat → Value → Prop} {St : Nat → Heap → Prop} {news : List (Addr × Obj)}
    {RR : Value → Addr → Result → Shared → Prop} (J : Nat → List Value → List (Addr × Obj) → Prop)
    (W : Walks prog w A I fp [I] n P St) (hsz : n ≤ sizeLine) (hIo : ∀ i h, St i h → ∃ o, h.get? I = some o)
    (hSt : ∀ i h h' o nw ys, St i h → h.get? I = some o → h'.get? I = some o → (∀ b o, h₀.get? b = some o → h'.get? b = some o) → News h₀ L h' nw → J i ys nw → St i h')
    (hcell : ∀ y ∈ scope.names, y.2 ≠ .cell) (hkind : scope.kind = .function) (hx : scope.names.lookup x = some .local) (hst : St 0 s₂.heap) (hfp : ∀ b ∈ fp, b < s₂.heap.objs.size)
    (F : Fr h₀ L s₂.heap m) (N : News h₀ L s₂.heap news) (nd : (news.map (·.1)).Nodup) (hIL : L ≠ I) (hI₀ : h₀.get? I = none) (off : ∀ p ∈ news, p.1 ≠ I) (hJ : J 0 [] news)
    (step : ∀ i v ys news I' oI C oC D m₂ h tk, i < n → P i v → J i ys news → NsObj oC m₂ → m₂ x = some v → Fr h₀ L h m → News h₀ L h ((I', oI) :: (C, oC) :: (D, lst ys) :: news) → (((I', oI) :: (C, oC) :: (D, lst ys) :: news).map (·.1)).Nodup →
      wpC (model prog w) A (eval elt (compEnvC scope cl C env)) (fun y s' => ∃ h' tk' news', s' = { s₂ with heap := h', toks := tk' } ∧ Fr h₀ L h' m ∧ News h₀ L h' ((I', oI) :: (C, oC) :: (D, lst ys) :: news') ∧
        (((I', oI) :: (C, oC) :: (D, lst ys) :: news').map (·.1)).Nodup ∧ J (i + 1) (ys ++ [y]) news') (fun _ _ => False) { s₂ with heap := h, toks := tk })
    (hRR : ∀ D C h tk m' ys news', Fr h₀ L h m → News h₀ L h ((D, lst ys) :: news') → (((D, lst ys) :: news').map (·.1)).Nodup → h.Ns C m' → h₀.get? C = none → h₀.get? D = none → C ≠ L → D ≠ L → C ≠ D → (∀ p ∈ news', p.1 ≠ C) → J n ys news' → ys.length = n → RR (.ref D) C (.ok .next) { s₂ with heap := h, toks := tk }) :
    wpAny (model prog w) A (newList []) (fun acc s₃ => wpAny (model prog w) A (newFunctionEnv scope env.globals cl [] env.qual none .none (some env)) (fun cenv s₄ =>
      codeC (model prog w) A (.compStart (.ListComp elt [⟨.Name x px, iter, [], 0⟩] scope pos) 0 (.ref I) acc { cenv with scope := relabel scope env }) (RR acc cenv.locals) s₄) E s₃) E s₂ := by
  refine wpAny_newObj_type (wpAny_newFunctionEnv hcell (by intro y hy; simp at hy) (fun h₁ hns₁ hsb₁ => ?_) hkind)
  dsimp only at hns₁ hsb₁ ⊢
  generalize hH2 : s₂.heap.push { cls := .type "list", dict := none, data := .seq ([] : List Value).toArray } = H2 at hns₁ hsb₁ ⊢
  have hC : H2.objs.size = s₂.heap.objs.size + 1 := by rw [← hH2, Heap.size_push]
  have hDC : s₂.heap.objs.size ≠ H2.objs.size := by rw [hC]; exact Nat.ne_of_lt (Nat.lt_succ_self _)
  have below : ∀ b, b < s₂.heap.objs.size → b ≠ H2.objs.size ∧ b ≠ s₂.heap.objs.size := fun b hb => ⟨by rw [hC]; exact Nat.ne_of_lt (Nat.lt_succ_of_lt hb), Nat.ne_of_lt hb⟩
  have hDf : s₂.heap.objs.size ∉ fp := fun hm => Nat.lt_irrefl _ (hfp _ hm)
  have hCf : H2.objs.size ∉ fp := fun hm => by have := hfp _ hm; rw [hC] at this; exact Nat.lt_irrefl _ (Nat.lt_of_succ_lt this)
  have hIf : I ∈ fp := W.sub I (List.mem_singleton.mpr rfl)
  have hIlt : I < s₂.heap.objs.size := hfp I hIf
  have old : ∀ b o, s₂.heap.get? b = some o → h₁.get? b = some o := fun b o e => hsb₁.extBut b o (below b (Heap.lt_size e)).1 (Heap.get?_push_of_some _ (hH2 ▸ Heap.get?_push_of_some _ e))
  have hacc : h₁.get? s₂.heap.objs.size = some (lst []) := hsb₁.extBut _ _ hDC (Heap.get?_push_of_some _ (hH2 ▸ Heap.get?_push_size _ rfl))
  have hst₁ : St 0 h₁ := W.frame _ _ _ hst fun b _ o e => old b o e
  have fresh : ∀ a, s₂.heap.objs.size ≤ a → s₂.heap.get? a = none := fun a ha => by
    cases e : s₂.heap.get? a with
    | none => rfl
    | some o' => exact absurd (Heap.lt_size e) (Nat.not_lt.mpr ha)
  have fresh₀ : ∀ a, s₂.heap.objs.size ≤ a → h₀.get? a = none := fun a ha => by
    cases e : h₀.get? a with
    | none => rfl
    | some o' => have := F.keep a o' e; rw [fresh a ha] at this; cases this
  have hD₀ : h₀.get? s₂.heap.objs.size = none := fresh₀ _ (Nat.le_refl _)
  have hC₀ : h₀.get? H2.objs.size = none := fresh₀ _ (by rw [hC]; exact Nat.le_succ _)
  have hLlt : L < s₂.heap.objs.size := F.ns.lt
  have hDL : s₂.heap.objs.size ≠ L := Ne.symm (below L hLlt).2
  have hCL : H2.objs.size ≠ L := Ne.symm (below L hLlt).1
  have hCI : I ≠ H2.objs.size := (below I hIlt).1
  have hDI : I ≠ s₂.heap.objs.size := (below I hIlt).2
  have mk3 : ∀ {nw : List (Addr × Obj)} {oI oC oD : Obj}, (nw.map (·.1)).Nodup → (∀ p ∈ nw, p.1 ≠ I ∧ p.1 ≠ H2.objs.size ∧ p.1 ≠ s₂.heap.objs.size) → (((I, oI) :: (H2.objs.size, oC) :: (s₂.heap.objs.size, oD) :: nw).map (·.1)).Nodup := fun {nw oI oC oD} h1 h2 =>
    nodup_join (l := [(I, oI), (H2.objs.size, oC), (s₂.heap.objs.size, oD)]) (nd3 hCI hDI (Ne.symm hDC)) (fun p hp b hb => by
      simp only [List.map_cons, List.map_nil, List.mem_cons, List.not_mem_nil, or_false] at hb
      rcases hb with rfl | rfl | rfl
      · exact (h2 p hp).1
      · exact (h2 p hp).2.1
      · exact (h2 p hp).2.2) h1
  have un3 : ∀ {nw : List (Addr × Obj)} {oI oC oD : Obj}, (((I, oI) :: (H2.objs.size, oC) :: (s₂.heap.objs.size, oD) :: nw).map (·.1)).Nodup → (nw.map (·.1)).Nodup ∧ (∀ p ∈ nw, p.1 ≠ I ∧ p.1 ≠ H2.objs.size ∧ p.1 ≠ s₂.heap.objs.size) := fun {nw oI oC oD} h => by
    have e1 := ownOff_of (l := [(I, oI), (H2.objs.size, oC), (s₂.heap.objs.size, oD)]) h
    refine ⟨nodup_rest (l := [(I, oI), (H2.objs.size, oC), (s₂.heap.objs.size, oD)]) h, fun p hp => ⟨e1 p hp _ (.head _), e1 p hp _ (.tail _ (.head _)), e1 p hp _ (.tail _ (.tail _ (.head _)))⟩⟩
  have loop : ∀ s₃ : Shared, s₃ = { s₂ with heap := h₁, toks := s₂.toks + ([] : List (Str × Value)).length } →
      codeC (model prog w) A (.compLoop (.ListComp elt [⟨.Name x px, iter, [], 0⟩] scope pos) 0 (.ref I) (.ref s₂.heap.objs.size) (compEnvC scope cl H2.objs.size env))
        (RR (.ref s₂.heap.objs.size) H2.objs.size) s₃ := by
    rintro s₃ rfl
    refine compLoop_C
      (fun k s' => ∃ h' tk i ys m' news', s' = { s₂ with heap := h', toks := tk } ∧ i ≤ n ∧ k = n + 1 - i ∧ ys.length = i ∧ St i h' ∧ Fr h₀ L h' m ∧ h'.Ns H2.objs.size m' ∧ News h₀ L h' ((s₂.heap.objs.size, lst ys) :: news') ∧
        (∀ p ∈ news', p.1 ≠ I ∧ p.1 ≠ H2.objs.size ∧ p.1 ≠ s₂.heap.objs.size) ∧ (news'.map (·.1)).Nodup ∧ J i ys news') ?_ (n + 1)
      ⟨h₁, _, 0, [], _, news, rfl, Nat.zero_le _, rfl, rfl, hst₁, F.keeps old, hns₁, fun p hp => ?_, fun p hp => ⟨off p hp, (below _ (Heap.lt_size (N p hp).1)).1, (below _ (Heap.lt_size (N p hp).1)).2⟩, nd, hJ⟩
    · rintro k s' ⟨h', tk, i, ys, m', news', rfl, hi, rfl, hyl, hst', F', hn', N', off', nd', hJ'⟩
      by_cases hlt : i < n
      · refine W.item i _ _ _ hlt hst' fun v h₂ tk₂ hPv hst₂ hk₂ => ?_
        refine wpAny_assign_Name (wpAny_storeName_local (lookup_relabel_local hx) (hn'.at' fun o e => hk₂ _ o (by simpa using Ne.symm hCI) e) (fun h₃ hn₃ hs₃ => ?_) (by simp [compEnvC, relabel, hkind]))
        have hst₃ : St (i + 1) h₃ := W.frame _ _ _ hst₂ fun b hb o e => hs₃.extBut b o (fun q => hCf (by have q' : b = H2.objs.size := q; rw [← q']; exact hb)) e
        obtain ⟨oI, heI⟩ := hIo _ _ hst₃
        obtain ⟨oC, heC, hoC⟩ := ns_obj hn₃
        have F₃ : Fr h₀ L h₃ m := (fr_but F' hk₂ hIL hI₀).change hs₃ hCL hC₀
        have N₂ : News h₀ L h₂ ((s₂.heap.objs.size, lst ys) :: news') := news_but N' hk₂ fun p hp => by
          rcases List.mem_cons.mp hp with rfl | hp
          · exact Ne.symm hDI
          · exact (off' p hp).1
        have N₃ : News h₀ L h₃ ((I, oI) :: (H2.objs.size, oC) :: (s₂.heap.objs.size, lst ys) :: news') := fun p hp => by
          rcases List.mem_cons.mp hp with rfl | hp
          · exact ⟨heI, Ne.symm hIL, hI₀⟩
          · rcases List.mem_cons.mp hp with rfl | hp
            · exact ⟨heC, hCL, hC₀⟩
            · have z := N₂ p hp
              refine ⟨hs₃.extBut _ _ ?_ z.1, z.2⟩
              rcases List.mem_cons.mp hp with rfl | hp
              · exact hDC
              · exact (off' p hp).2.1
        refine wpC_mono (step i v ys news' I oI H2.objs.size oC s₂.heap.objs.size _ h₃ _ hlt hPv hJ' hoC (by simp) F₃ N₃ (mk3 nd' off')) (fun y s₄ h₄ => ?_) fun _ _ e => e
        obtain ⟨h₄, tk₄, news₄, rfl, F₄, N₄, nd₄, hJ₄⟩ := h₄
        obtain ⟨nd₅, off4⟩ := un3 nd₄
        have zI := (N₄ (I, oI) List.mem_cons_self).1
        have zC := (N₄ (H2.objs.size, oC) (List.mem_cons_of_mem _ List.mem_cons_self)).1
        have zD := (N₄ (s₂.heap.objs.size, lst ys) (List.mem_cons_of_mem _ (List.mem_cons_of_mem _ List.mem_cons_self))).1
        have N₄' : News h₀ L h₄ news₄ := fun p hp => N₄ p (List.mem_cons_of_mem _ (List.mem_cons_of_mem _ (List.mem_cons_of_mem _ hp)))
        have hst₄ : St (i + 1) h₄ := hSt _ _ _ _ _ _ hst₃ heI zI F₄.keep N₄' hJ₄
        refine append_at (hsz := by show ys.toArray.size ≤ sizeLine; rw [List.size_toArray, hyl]; exact Nat.le_trans hi hsz) zD fun h₅ hs₅ hD₅ => ?_
        refine ⟨n + 1 - (i + 1), by lia, h₅, tk₄, i + 1, ys ++ [y], _, news₄, rfl, hlt, rfl, by rw [List.length_append, List.length_singleton, hyl], W.frame _ _ _ hst₄ fun b hb o e => hs₅.extBut b o (fun q => hDf (q ▸ hb)) e, F₄.change hs₅ hDL hD₀,
          (hoC.ns zC).sameBut hs₅ (Ne.symm hDC), fun p hp => ?_, off4, nd₅, hJ₄⟩
        rcases List.mem_cons.mp hp with rfl | hp
        · exact ⟨hD₅.trans (congrArg some (lst_snoc ys y)), hDL, hD₀⟩
        · exact ⟨hs₅.extBut _ _ (off4 p hp).2.2 (N₄' p hp).1, (N₄' p hp).2⟩
      · obtain rfl : i = n := Nat.le_antisymm hi (Nat.not_lt.mp hlt)
        refine W.done _ _ _ hst' fun h₂ tk₂ hk₂ => ?_
        exact hRR _ _ h₂ tk₂ _ ys news' (fr_but F' hk₂ hIL hI₀) (news_but N' hk₂ fun p hp => by
          rcases List.mem_cons.mp hp with rfl | hp
          · exact Ne.symm hDI
          · exact (off' p hp).1) (by rw [List.map_cons, List.nodup_cons]; exact ⟨fun hm => by obtain ⟨p, hp, e⟩ := List.mem_map.mp hm; exact (off' p hp).2.2 e, nd'⟩) (hn'.at' fun o e => hk₂ _ o (by simpa using Ne.symm hCI) e) hC₀ hD₀ hCL hDL (Ne.symm hDC) (fun p hp => (off' p hp).2.1) hJ' hyl
    · rcases List.mem_cons.mp hp with rfl | hp
      · exact ⟨hacc, hDL, hD₀⟩
      · exact ⟨old _ _ (N p hp).1, (N p hp).2⟩
  refine compStart_C (loop _ rfl) (W.self 0 _ _ _ hst₁ (loop _ rfl))
end
end
section
open Sem (wp)
open PyProof.Rows.LCg (NsObj lst ns_obj lst_snoc fr_but news_but SrcAt list_st range_walks range_st)
section
variable {prog : Program} {w : World} {A : Around} {E : Value → Shared → Prop} {s : Shared} {R : Result → Shared → Prop} {env : Env}
/-- what is left of a comprehension when its source stands -/
def CompGo (prog : Program) (w : World) (A : Around) (env : Env) (elt iter : Expr) (x : Str) (px : Pos) (scope : Scope) (cl : List (Str × Addr)) (pos : Pos) (Q : Value → Shared → Prop) (E : Value → Shared → Prop) (xv : Value) (s₁ : Shared) : Prop :=
  wpAny (model prog w) A (pyIter xv) (fun it s₂ => wpAny (model prog w) A (newList []) (fun acc s₃ =>
      wpAny (model prog w) A (newFunctionEnv scope env.globals cl [] env.qual none .none (some env)) (fun cenv s₄ =>
        codeC (model prog w) A (.compStart (.ListComp elt [⟨.Name x px, iter, [], 0⟩] scope pos) 0 it acc { cenv with scope := relabel scope env }) (fun r s' => match r with
          | .ok _ => ∃ m, s'.heap.Ns cenv.locals m ∧ ∀ h', Heap.SameBut cenv.locals s'.heap h' → Q acc { s' with heap := h' }
          | .error _ => False) s₄) E s₃) E s₂) E s₁
theorem ListComp_C {elt iter : Expr} {x : Str} {px : Pos} {scope : Scope} {cl : List (Str × Addr)} {pos : Pos} {Q : Value → Shared → Prop}
    (hclos : closureFor scope env = pure cl) (hkind : scope.kind = .function) (hnames : ∀ y ∈ scope.names, y.2 = .local → scope.names.lookup y.1 = some .local)
    (h : wpC (model prog w) A (eval iter env) (CompGo prog w A env elt iter x px scope cl pos Q E) E s)
    (hs : ∀ x, foldedSetIterable iter env x = pure x := by intro _; rfl) :
    wpC (model prog w) A (eval (.ListComp elt [⟨.Name x px, iter, [], 0⟩] scope pos) env) Q E s := by
  rw [eval_ListComp]
  exact comprehension_C rfl hs hclos hkind hnames h
variable {h₀ : Heap} {L : Addr} {m : Str → Option Value} {news : List (Addr × Obj)} {elt iter : Expr} {x : Str} {px : Pos} {scope : Scope} {cl : List (Str × Addr)} {pos : Pos} {Q : Value → Shared → Prop}
/-- an element's end -/
def EltEndC (h₀ : Heap) (L : Addr) (m : Str → Option Value) (s : Shared) (I : Addr) (oI : Obj) (C : Addr) (oC : Obj) (D : Addr) (oD : Obj) (J : Value → List (Addr × Obj) → Prop) (y : Value) (s' : Shared) : Prop :=
  ∃ h' tk' news', s' = { s with heap := h', toks := tk' } ∧ Fr h₀ L h' m ∧ News h₀ L h' ((I, oI) :: (C, oC) :: (D, oD) :: news') ∧ (((I, oI) :: (C, oC) :: (D, oD) :: news').map (·.1)).Nodup ∧ J y news'
/-- what a turn of a comprehension must do -/
def CompTurn (prog : Program) (w : World) (A : Around) (env : Env) (elt : Expr) (x : Str) (scope : Scope) (cl : List (Str × Addr)) (h₀ : Heap) (L : Addr) (m : Str → Option Value) (s : Shared) (n : Nat) (P : Nat → Value → Prop) (J : Nat → List Value → List (Addr × Obj) → Prop) : Prop :=
  ∀ i v ys news I' oI C oC D m₂ h tk, i < n → P i v → J i ys news → NsObj oC m₂ → m₂ x = some v → Fr h₀ L h m → News h₀ L h ((I', oI) :: (C, oC) :: (D, lst ys) :: news) → (((I', oI) :: (C, oC) :: (D, lst ys) :: news).map (·.1)).Nodup →
      wpC (model prog w) A (eval elt (compEnvC scope cl C env)) (EltEndC h₀ L m s I' oI C oC D (lst ys) (fun y nw => J (i + 1) (ys ++ [y]) nw)) (fun _ _ => False) { s with heap := h, toks := tk }
theorem compEnd {D C : Addr} {h : Heap} {tk : Nat} {m' : Str → Option Value} {ys : List Value} {news' : List (Addr × Obj)} {J : List Value → List (Addr × Obj) → Prop} (F' : Fr h₀ L h m) (N' : News h₀ L h ((D, lst ys) :: news')) (nd' : (((D, lst ys) :: news').map (·.1)).Nodup) (hn : h.Ns C m') (hC₀ : h₀.get? C = none)
    (hCL : C ≠ L) (hCD : C ≠ D) (offC : ∀ p ∈ news', p.1 ≠ C) (fin : J ys news')
    (hQ : ∀ D h' tk ys news', Fr h₀ L h' m → News h₀ L h' ((D, lst ys) :: news') → (((D, lst ys) :: news').map (·.1)).Nodup → J ys news' → Q (.ref D) { s with heap := h', toks := tk }) :
    ∃ m, h.Ns C m ∧ ∀ h', Heap.SameBut C h h' → Q (.ref D) { s with heap := h', toks := tk } := by
  refine ⟨m', hn, fun h'' hs'' => hQ D h'' tk ys news' (F'.change hs'' hCL hC₀) (fun p hp => ?_) nd' fin⟩
  refine ⟨hs''.extBut _ _ ?_ (N' p hp).1, (N' p hp).2⟩
  rcases List.mem_cons.mp hp with rfl | hp
  · exact Ne.symm hCD
  · exact offC p hp
/-- the source is a list -/
theorem compGo_list {ax : Addr} {its : Array Value} (J : Nat → List Value → List (Addr × Obj) → Prop) (hh : A.handled = none) (hcell : ∀ y ∈ scope.names, y.2 ≠ .cell) (hkind : scope.kind = .function) (hx : scope.names.lookup x = some .local)
    (F : Fr h₀ L s.heap m) (N : News h₀ L s.heap news) (nd : (news.map (·.1)).Nodup) (S : ∀ i ys nw, J i ys nw → SrcAt h₀ ax its nw) (hsz : its.size ≤ sizeLine) (hJ : J 0 [] news)
    (step : CompTurn prog w A env elt x scope cl h₀ L m s its.size (fun i v => its[i]? = some v) J)
    (hQ : ∀ D h' tk ys news', Fr h₀ L h' m → News h₀ L h' ((D, lst ys) :: news') → (((D, lst ys) :: news').map (·.1)).Nodup → J its.size ys news' → Q (.ref D) { s with heap := h', toks := tk }) :
    CompGo prog w A env elt iter x px scope cl pos Q E (.ref ax) s := by
  have hl := (S _ _ _ hJ).list F.keep N
  have hlt : ax < s.heap.objs.size := by obtain ⟨_, e, _⟩ := hl; exact Heap.lt_size e
  refine wpAny_pyIter_list hl ?_
  have up : ∀ b o, s.heap.get? b = some o → (s.heap.push { cls := .type "list_iterator", data := .fields #[.ref ax, .int 0 0] }).get? b = some o := fun b o e => Heap.get?_push_of_some _ e
  refine block_C (RR := fun acc C r s' => match r with
          | .ok _ => ∃ m, s'.heap.Ns C m ∧ ∀ h', Heap.SameBut C s'.heap h' → Q acc { s' with heap := h' }
          | .error _ => False) (h₀ := h₀) (L := L) (m := m) (news := news) J (Walks.list hh s.heap.objs.size ax (Nat.ne_of_lt hlt) its) hsz (fun i h st => by obtain ⟨o, e, _⟩ := st.1; exact ⟨o, e⟩) (fun i h h' o nw ys st e e' k N' hj => list_st i h h' o nw st e e' k N' (S _ _ _ hj)) hcell hkind hx ⟨⟨_, Heap.get?_push_size _ rfl, rfl, rfl⟩, hl.push _⟩ (fun b hb => ?_)
    (F.keeps up) (N.grown up) nd (Nat.ne_of_lt F.ns.lt) (next_is_new F) (fun p hp => Nat.ne_of_lt (Heap.lt_size (N p hp).1)) hJ (fun i v ys nw I' oI C oC D m₂ h tk h0 h1 h2 h3 h4 h5 h6 h7 => step i v ys nw I' oI C oC D m₂ h tk h0 h1 h2 h3 h4 h5 h6 h7) ?_
  · show b < (s.heap.push _).objs.size
    rw [Heap.size_push]
    rcases List.mem_cons.mp hb with rfl | hb
    · exact Nat.lt_succ_self _
    · rw [List.mem_singleton.mp hb]; exact Nat.lt_succ_of_lt hlt
  · intro D C h' tk m' ys news' F' N' nd' hn hC₀ hD₀ hCL hDL hCD offC fin hyl
    exact compEnd (J := fun ys nw => J its.size ys nw) F' N' nd' hn hC₀ hCL hCD offC fin hQ
/-- the source is a range -/
theorem compGo_range {r : Addr} {a b : Int} {t u v : Tok} {n : Nat} (J : Nat → List Value → List (Addr × Obj) → Prop) (hh : A.handled = none) (hcell : ∀ y ∈ scope.names, y.2 ≠ .cell) (hkind : scope.kind = .function) (hx : scope.names.lookup x = some .local)
    (F : Fr h₀ L s.heap m) (N : News h₀ L s.heap news) (nd : (news.map (·.1)).Nodup) (hr : IsRange s.heap r a b 1 t u v) (hsm : Builtin.Range.small a b 1 = true) (hn : Builtin.Range.rangeSize a b 1 = ((n : Nat) : Int)) (hsz : n ≤ sizeLine) (hJ : J 0 [] news)
    (step : CompTurn prog w A env elt x scope cl h₀ L m s n (fun i v => ∃ t, v = .int (a + (i : Int)) t) J)
    (hQ : ∀ D h' tk ys news', Fr h₀ L h' m → News h₀ L h' ((D, lst ys) :: news') → (((D, lst ys) :: news').map (·.1)).Nodup → J n ys news' → Q (.ref D) { s with heap := h', toks := tk }) :
    CompGo prog w A env elt iter x px scope cl pos Q E (.ref r) s := by
  refine wpAny_pyIter_range hr hsm ?_
  refine block_C (RR := fun acc C r s' => match r with
          | .ok _ => ∃ m, s'.heap.Ns C m ∧ ∀ h', Heap.SameBut C s'.heap h' → Q acc { s' with heap := h' }
          | .error _ => False) (h₀ := h₀) (L := L) (m := m) (news := news) J (range_walks hh a n) hsz (fun i h st => ⟨_, st⟩) (fun i h h' o nw ys st e e' k N' hj => range_st i h h' o nw st e e' k N' trivial) hcell hkind hx (by show IsRangeIter _ _ _ _ _; rw [hn]; simpa using Heap.get?_push_size _ rfl) (fun b hb => ?_)
    (F.keeps fun _ _ e => Heap.get?_push_of_some _ e) (N.grown fun _ _ e => Heap.get?_push_of_some _ e) nd (Nat.ne_of_lt F.ns.lt) (next_is_new F) (fun p hp => Nat.ne_of_lt (Heap.lt_size (N p hp).1)) hJ (fun i v ys nw I' oI C oC D m₂ h tk h0 h1 h2 h3 h4 h5 h6 h7 => step i v ys nw I' oI C oC D m₂ h tk h0 h1 h2 h3 h4 h5 h6 h7) ?_
  · rw [List.mem_singleton.mp hb]
    show s.heap.objs.size < (s.heap.push _).objs.size
    rw [Heap.size_push]; exact Nat.lt_succ_self _
  · intro D C h' tk m' ys news' F' N' nd' hn hC₀ hD₀ hCL hDL hCD offC fin hyl
    exact compEnd (J := fun ys nw => J n ys nw) F' N' nd' hn hC₀ hCL hCD offC fin hQ
end
end
section
open Sem (wp)
open PyProof.Rows.LCg (NsObj lst ns_obj CompRest CompEnd CompSrc FinE Off3 Off1 SrcAt)
section
variable {prog : Program} {w : World} {A : Around} {E : Value → Shared → Prop} {s : Shared} {env : Env} {h₀ : Heap} {L : Addr} {m : Str → Option Value} {news : List (Addr × Obj)} {elt iter : Expr} {x : Str} {px : Pos} {scope : Scope} {cl : List (Str × Addr)} {pos : Pos}
def EltEnd (h₀ : Heap) (L : Addr) (m : Str → Option Value) (s : Shared) (I : Addr) (oI : Obj) (C : Addr) (oC : Obj) (D : Addr) (oD : Obj) (J : Value → List (Addr × Obj) → Prop) (y : Value) (s' : Shared) : Prop :=
  ∃ h' tk' news', s' = { s with heap := h', toks := tk' } ∧ Fr h₀ L h' m ∧ News h₀ L h' ((I, oI) :: (C, oC) :: (D, oD) :: news') ∧ Off3 I C D news' ∧ J y news'
theorem compRest_J {S : List (Addr × Obj) → Prop} {P : Nat → Value → Prop} {Fin : List Value → List (Addr × Obj) → Prop} {n : Nat} (J : Nat → List Value → List (Addr × Obj) → Prop) (hS : ∀ i ys nw, J i ys nw → S nw)
    (step : ∀ i v ys news I oI C oC D m₂ h tk (E' : Value → Shared → Prop), i < n → P i v → J i ys news → NsObj oC m₂ → m₂ x = some v → Fr h₀ L h m → News h₀ L h ((I, oI) :: (C, oC) :: (D, lst ys) :: news) → Off3 I C D news →
      ((@Ne Nat I C) ∧ (@Ne Nat I D) ∧ (@Ne Nat C D)) → wpAny (model prog w) A (eval elt (compEnvC scope cl C env)) (EltEnd h₀ L m s I oI C oC D (lst ys) (fun y nw => J (i + 1) (ys ++ [y]) nw)) E' { s with heap := h, toks := tk })
    (fin : ∀ ys news, J n ys news → Fin ys news) : ∀ k i ys news, k + i = n → J i ys news → CompRest prog w A h₀ L m env elt x scope cl s S P Fin k i ys news
  | 0, i, ys, news, e, hJ => fin ys news (by have : i = n := by lia
                                             rw [← this]; exact hJ)
  | k + 1, i, ys, news, e, hJ => by
    intro v I oI C oC D m₂ h tk E' hP hC hx F N off ne
    refine wpAny_mono (step i v ys news I oI C oC D m₂ h tk E' (by lia) hP hJ hC hx F N off ne) (fun y s₂ h₂ => ?_) fun _ _ e => e
    obtain ⟨h', tk', news', rfl, F', N', off', hJ'⟩ := h₂
    exact ⟨h', tk', news', rfl, F', N', off', hS _ _ _ hJ', compRest_J J hS step fin k (i + 1) _ _ (by lia) hJ'⟩
/-- the source of a comprehension stands (told later) -/
def MySrc (prog : Program) (w : World) (A : Around) (h₀ : Heap) (L : Addr) (m : Str → Option Value) (env : Env) (elt : Expr) (x : Str) (scope : Scope) (cl : List (Str × Addr)) (Q : Value → Shared → Prop) (xv : Value) (s₁ : Shared) : Prop :=
  CompSrc prog w A h₀ L m env elt x scope cl (fun s₂ => FinE h₀ L m s₂ Q) xv s₁
theorem ListComp_A {Q : Value → Shared → Prop} (F₀ : Fr h₀ L s.heap m)
    (h : wpAny (model prog w) A (eval iter env) (MySrc prog w A h₀ L m env elt x scope cl Q) E s)
    (hclos : closureFor scope env = pure cl) (hcell : ∀ y ∈ scope.names, y.2 ≠ .cell) (hkind : scope.kind = .function)
    (hnames : ∀ y ∈ scope.names, y.2 = .local → scope.names.lookup y.1 = some .local) (hx : scope.names.lookup x = some .local)
    (hs : ∀ x, foldedSetIterable iter env x = pure x := by intro _; rfl) :
    wpAny (model prog w) A (eval (.ListComp elt [⟨.Name x px, iter, [], 0⟩] scope pos) env) Q E s :=
  LCg.ListComp_U F₀ hclos hcell hkind hnames hx h hs
/-- names in the block of a comprehension -/
theorem compName_local {M : Model} {y : Str} {C : Addr} {oC : Obj} {m₂ : Str → Option Value} {v : Value} {np : Pos} {Q : Value → Shared → Prop} (N : News h₀ L s.heap news) (hm : (C, oC) ∈ news) (hC : NsObj oC m₂) (hv : m₂ y = some v) (h : Q v s)
    (hk : (compEnvC scope cl C env).scope.kind = .function) (hx : (compEnvC scope cl C env).kindOf y = some .local) (hd : (y == ("__debug__" : Str)) = false) :
    wpAny M A (eval (.Name y np) (compEnvC scope cl C env)) Q E s := wpAny_Name (wpAny_loadName_local hk hx (hC.ns (N _ hm).1) hv h) hd
theorem compName_builtin {M : Model} {K : Frag} {p : Program} {loose : List Str} {mg mb : Str → Option Value} {y : Str} {env' : Env} {v : Value} {np : Pos} {Q : Value → Shared → Prop} (F : Fr h₀ L s.heap m) (X : K.In h₀) (T : TopRead p loose mg mb h₀)
    (e : nsIn K mainGlobals y = some none) (hv : bootBuiltins y = some v) (hn : y ≠ "__name__") (h : Q v s) (hk : env'.scope.kind = .function) (hx : env'.kindOf y = some .globalImplicit) (hg : env'.globals = mainGlobals) (hb : env'.builtins = builtinsNs) (hd : (y == ("__debug__" : Str)) = false) :
    wpAny M A (eval (.Name y np) env') Q E s :=
  Name_function_global hk hx (loadGlobal_builtin (env := env') (hg ▸ T.g.keeps F.keep) (mg_none_of X T.g e) (hb ▸ T.b.keeps F.keep) ((T.builtins y hn).trans hv) h) hd
theorem compName_free {M : Model} {y : Str} {C c : Addr} {o : Obj} {v : Value} {np : Pos} {Q : Value → Shared → Prop} (N : News h₀ L s.heap news) (hc : cl.lookup y = some c) (hm : (c, o) ∈ news) (hd' : o.data = .cell (some v)) (h : Q v s)
    (hk : (compEnvC scope cl C env).scope.kind = .function) (hx : (compEnvC scope cl C env).kindOf y = some .cell) (hd : (y == ("__debug__" : Str)) = false) :
    wpAny M A (eval (.Name y np) (compEnvC scope cl C env)) Q E s := wpAny_Name (wpAny_loadName_cell hk hx hc ⟨o, N.get hm, hd'⟩ h) hd
end
end
local macro_rules | `(tactic| walk_at "eval Name") => `(tactic| (k_here; (with_reducible show wpAny _ _ (eval (Expr.Name _ _) (compEnvC _ _ _ _)) _ _ _); k_dflt (first | (refine' compName_local ?N ?hm ?hC ?hv ?_ ?a ?b ?c; (case a => exact rfl); (case b => exact rfl); (case c => exact rfl); (case N => k_asm); (case hC => assumption); (case hm => k_mem); (case hv => assumption)) | (refine' compName_free ?N ?hc ?hm ?hd ?_ ?a ?b ?c; (case a => exact rfl); (case b => exact rfl); (case c => exact rfl); (case N => k_asm); (case hc => exact rfl); (case hm => k_mem); (case hd => assumption)) | (refine' nameG_K ?F ?X ?T ?e ?_ ?a ?b ?c ?d; (case a => exact rfl); (case b => exact rfl); (case c => exact rfl); (case d => exact rfl); (case F => k_asm); (case X => k_asm); (case T => k_asm); (case e => k_is)) | (refine' compName_builtin ?F ?X ?T ?e ?v ?n ?_ ?a ?b ?c ?d ?f; (case a => exact rfl); (case b => exact rfl); (case c => exact rfl); (case d => exact rfl); (case f => exact rfl); (case F => k_asm); (case X => k_asm); (case T => k_asm); (case e => k_is); (case v => first | exact PyProof.Rows.Boot.«int» | exact PyProof.Rows.Boot.«bytes» | exact PyProof.Rows.Boot.«len» | exact rfl); (case n => decide)))))
section
theorem begins_L2 : True := by
  w_top off
  exact trivial
local macro_rules | `(tactic| walk_at "eval ListComp") => `(tactic| (k_here; k_dflt (refine' ListComp_A (cl := []) ?F ?_ ?c1 ?c2 ?c3 ?c4 ?c5 ?c6; (case c6 => (intro _; exact rfl)); (case F => k_asm); (case c1 => exact rfl); (case c2 => decide); (case c3 => exact rfl); (case c4 => decide); (case c5 => exact rfl))))
theorem off1_ne {D : Addr} {l : List (Addr × Obj)} (h : LCg.Off1 D l) : ∀ p ∈ l, p.1 ≠ D := by
  induction l with
  | nil => exact fun p hp => nomatch hp
  | cons a r ih =>
    intro p hp
    rcases List.mem_cons.mp hp with rfl | hp
    · exact h.1
    · exact ih h.2 p hp
theorem deck (w : World) {l : Addr} {vs : List Value} {ns : List Int} (hi : IntsAre vs ns) (hn : ns.length ≤ 1000) :
  ∀ {A A₀ : Around} {base h₀ : Heap} {outer : List Env} {L : Addr} {m mg mb : Str → Option Value} {env : Env} {p : Program} {loose : List Str} {mean : ExcName → Option Value} {rest : List (Addr × Obj)} {s : Shared} {R : Result → Shared → Prop},
    Below A₀ base outer h₀ → Fr h₀ L s.heap m → (Mine0.hd.heap_1 w.params).In h₀ → Led h₀ L s.heap rest → Top p loose mean mg mb h₀ → A.frames = some (env :: outer) → env.frame = some L → env.scope.kind = .function → A.handled = none →
    A.depth + 10 < recursionLimit → A.units + 8 * 10 < cLine → h₀.IsList l vs.toArray →
    (∀ d c o t vs' ns' cap h' tk', Fr h₀ L h' m → News h₀ L h' ((d, o) :: (c, listOf vs'.toArray cap) :: rest) → (((d, o) :: (c, listOf vs'.toArray cap) :: rest).map (·.1)).Nodup → Cells vs' ns' → DeckO w c 0 t o → (d == sysModules) = false → R (.ok (.ret (.ref d))) { s with heap := h', toks := tk' }) →
    codeC (model PySem.Challenge.rw_nt0489_01.row.prog w) A (.call (.ref 211) ⟨[.ref l], []⟩) R s := by
  intro A A₀ base h₀ outer L m mg mb env p loose mean rest s R B F X₀ LD T hA hf hke hh hd hu hl ret
  obtain ⟨N, nd⟩ := LD
  revert X₀; k_fill; intro X₀
  refine' def_C (binds := [(Str.ofString "script", .ref l)]) B F X₀ N T hA hf hke ?k6 ?k7 ?k8 ?k9 ?kB ?_ ?c2 ?c3 ?c4 ?c5
  (( (case k6 => k_is); (case k7 => k_is); (case k8 => walk_at "om"); (case k9 => first | exact BindsTo.of_eq rfl | exact binds_K (by k_in) rfl (by k_is) rfl rfl rfl | fail "enter: no rule for these arguments"); (case c5 => decide); (case kB => exact locs rfl); (case c2 => exact rfl); (case c3 => exact rfl); (case c4 => exact rfl)))
  intro g' L' h' FG' F' N' B' X' T' l1
  have hl' : g'.IsList l vs.toArray := let ⟨o, ho, r⟩ := hl; ⟨o, FG'.keep _ _ ho, r⟩
  clear F N FG'
  obtain ⟨ahd, adp, afr, agd, aun⟩ := A
  dsimp only at hh
  subst hh
  (repeat' (first | (k_unfold; (try dsimp only)) | (first | (with_reducible first | ((show (_ : Flow → Shared → Prop) _ _); rename Flow → Shared → Prop => K9; rename KR K9 _ => kr9; rename KN K9 _ => kn9; (first | refine kn9 _ ?_ | refine kr9.ret _ _ ?_ | refine kr9.brk _ ?_ | refine kr9.cont _ ?_); clear kn9 kr9 K9; (try dsimp only)) | ((show (_ : Flow → Shared → Prop) _ _); (first | refine kn_go (by assumption) ?_ | refine kr_go (by assumption) ?_); (try dsimp only)) | ((show (_ : Bool → Shared → Prop) _ _); rename Bool → Shared → Prop => K9; rename KT K9 _ => kb9; refine kb9 _ _ ?_; clear kb9 K9; (try dsimp only)))) | ((with_reducible show wpC _ _ _ _ _ _); (first | (((with_reducible show wpC _ _ (execs (_ :: _) _) _ _ _); refine execs_cons_G ?_; intro _ _ _)) | (((with_reducible show wpC _ _ (exec _ _) _ _ _); refine wpC_any ?_)))) | (dsimp only; (with_reducible show wpC _ _ _ _ _ _)) | ((fail_if_success (with_reducible show wpC _ _ _ _ _ _)); (first | walk1 | (dsimp only; walk1)))))
  rename_i d1 h1 o1 la lo1 hd1 D1 ws1 h2 F2 N2 hI hC9 hL l2
  have hlen := hI.length
  refine LCg.CompSrc.ledger rfl F2 N2 (.head _) (by rw [List.size_toArray, sizeLine_eq]; lia) (fun g => ?_)
  refine compRest_J (n := ws1.toArray.size) (fun i ys nw => nw = (D1, W.listOf ws1.toArray 0) :: (d1, o1) :: rest ∧ ∃ zs, IntsAre ys zs ∧ (∀ z ∈ zs, 0 ≤ z ∧ z < 1000000007) ∧ zs.length = i) ?hS ?step ?fin _ 0 [] _ rfl ⟨rfl, [], .nil, (fun _ h => nomatch h), rfl⟩
  case hS =>
    rintro i ys nw ⟨rfl, _⟩
    exact .inr ⟨_, .head _, rfl, _, rfl⟩
  case step =>
    rintro i v ys nw I oI C oC D m₂ h tk E' hi hP ⟨rfl, zs, z1, z2, z3⟩ hC hx F N off ne
    obtain ⟨n, t, rfl, hn9⟩ := IntsAre.at hI i v (by simpa using hP)
    (repeat' (first | (k_unfold; (try dsimp only)) | (first | (with_reducible first | ((show (_ : Flow → Shared → Prop) _ _); rename Flow → Shared → Prop => K9; rename KR K9 _ => kr9; rename KN K9 _ => kn9; (first | refine kn9 _ ?_ | refine kr9.ret _ _ ?_ | refine kr9.brk _ ?_ | refine kr9.cont _ ?_); clear kn9 kr9 K9; (try dsimp only)) | ((show (_ : Flow → Shared → Prop) _ _); (first | refine kn_go (by assumption) ?_ | refine kr_go (by assumption) ?_); (try dsimp only)) | ((show (_ : Bool → Shared → Prop) _ _); rename Bool → Shared → Prop => K9; rename KT K9 _ => kb9; refine kb9 _ _ ?_; clear kb9 K9; (try dsimp only)))) | ((fail_if_success (with_reducible show wpC _ _ _ _ _ _)); (first | walk1 | (dsimp only; walk1)))))
    refine ⟨_, _, _, rfl, F, N, off, rfl, zs ++ [n.fmod 1000000007], IntsAre.append z1 (.cons _ _ .nil), fun z hz => ?_, by rw [List.length_append, List.length_singleton, z3]⟩
    rcases List.mem_append.mp hz with hz | hz
    · exact z2 z hz
    · rw [List.mem_singleton.mp hz]
      exact ⟨fmod_pos (by decide), Int.fmod_lt_of_pos _ (by decide)⟩
  case fin =>
    rintro ys nw ⟨rfl, zs, z1, z2, z3⟩
    intro D h tk F N off
    obtain ⟨n1, n2, n3⟩ := off
    dsimp only at n1 n2
    (repeat' (first | (k_unfold; (try dsimp only)) | (first | (with_reducible first | ((show (_ : Flow → Shared → Prop) _ _); rename Flow → Shared → Prop => K9; rename KR K9 _ => kr9; rename KN K9 _ => kn9; (first | refine kn9 _ ?_ | refine kr9.ret _ _ ?_ | refine kr9.brk _ ?_ | refine kr9.cont _ ?_); clear kn9 kr9 K9; (try dsimp only)) | ((show (_ : Flow → Shared → Prop) _ _); (first | refine kn_go (by assumption) ?_ | refine kr_go (by assumption) ?_); (try dsimp only)) | ((show (_ : Bool → Shared → Prop) _ _); rename Bool → Shared → Prop => K9; rename KT K9 _ => kb9; refine kb9 _ _ ?_; clear kb9 K9; (try dsimp only)))) | ((with_reducible show wpC _ _ _ _ _ _); fail) | (dsimp only; (with_reducible show wpC _ _ _ _ _ _)) | ((fail_if_success (with_reducible show wpC _ _ _ _ _ _)); (first | walk1 | (dsimp only; walk1)))))
    rename_i h3 o3 F3 N3 hd3 kF kN Tc kX
    refine ret d1 D o3 _ ys zs ys.length h3 _ kF (fun y hy => kN y ?_) (nd1' n2 (fun p hp => Nat.ne_of_lt (la p hp)) (off1_ne n3) nd) ⟨z1, z2, ?_⟩ hd3 lo1
    · simp only [List.mem_cons] at hy ⊢
      rcases hy with h | h | h <;> simp only [h, true_or, or_true]
    · rw [z3, List.size_toArray]; lia
end
section
open Sem (wp)
open PyProof.Rows.LCg (fr_but news_but SrcAt list_st range_walks range_st)
section
variable {prog : Program} {w : World} {A : Around} {E : Value → Shared → Prop} {s : Shared} {R : Result → Shared → Prop} {env : Env} {h₀ : Heap} {L : Addr} {m : Str → Option Value} {news : List (Addr × Obj)}
/-- what a turn of a for loop must leave -/
def TurnEnd (h₀ : Heap) (L : Addr) (s : Shared) (I : Addr) (oI : Obj) (J : (Str → Option Value) → List (Addr × Obj) → Prop) (s₃ : Shared) : Prop :=
  ∃ h' tk' m₂ news₂, s₃ = { s with heap := h', toks := tk' } ∧ Fr h₀ L h' m₂ ∧ News h₀ L h' ((I, oI) :: news₂) ∧ (((I, oI) :: news₂).map (·.1)).Nodup ∧ J m₂ news₂
/-- a for loop over any walk -/
theorem forWalk_C {target : Expr} {body : List Stmt} {I : Addr} {fp : List Addr} {n : Nat} {P : Nat → Value → Prop} {St : Nat → Heap → Prop} (J : Nat → (Str → Option Value) → List (Addr × Obj) → Prop)
    (W : Walks prog w A I fp [I] n P St) (hIo : ∀ i h, St i h → ∃ o, h.get? I = some o)
    (hSt : ∀ i h h' o nw mm, St i h → h.get? I = some o → h'.get? I = some o → (∀ b o, h₀.get? b = some o → h'.get? b = some o) → News h₀ L h' nw → J i mm nw → St i h')
    (hgo : ∀ i v (s' : Shared) (Q : Unit → Shared → Prop), St i s'.heap → Q () s' → wpAny (model prog w) A (letOwnedTupleGo target (.ref I) v) Q (fun _ _ => False) s')
    (h0 : J 0 m news) (hst : St 0 s.heap) (F₀ : Fr h₀ L s.heap m) (N₀ : News h₀ L s.heap news) (nd₀ : (news.map (·.1)).Nodup) (off : ∀ p ∈ news, p.1 ≠ I) (hIL : L ≠ I) (hI₀ : h₀.get? I = none)
    (step : ∀ i v m₁ news₁ h tk oI, i < n → P i v → J i m₁ news₁ → Fr h₀ L h m₁ → News h₀ L h ((I, oI) :: news₁) → (((I, oI) :: news₁).map (·.1)).Nodup →
      wpAny (model prog w) A (assign target env v) (fun _ s₂ => wpC (model prog w) A (execs body env) (fun f s₃ => match f with
        | .next | .cont => TurnEnd h₀ L s I oI (J (i + 1)) s₃
        | .brk => R (.ok .next) s₃
        | .ret v => R (.ok (.ret v)) s₃) (fun _ _ => False) s₂) (fun _ _ => False) { s with heap := h, toks := tk })
    (done : ∀ h tk m₁ news₁, J n m₁ news₁ → Fr h₀ L h m₁ → News h₀ L h news₁ → (news₁.map (·.1)).Nodup → R (.ok .next) { s with heap := h, toks := tk }) :
    codeC (model prog w) A (.forLoop target (.ref I) body [] env) R s := by
  have un : ∀ {nw : List (Addr × Obj)} {oI : Obj}, (((I, oI) :: nw).map (·.1)).Nodup → (nw.map (·.1)).Nodup ∧ (∀ p ∈ nw, p.1 ≠ I) := fun {nw oI} h => by
    have e1 := ownOff_of (l := [(I, oI)]) h
    exact ⟨nodup_rest (l := [(I, oI)]) h, fun p hp => e1 p hp _ (.head _)⟩
  have mk : ∀ {nw : List (Addr × Obj)} {oI : Obj}, (nw.map (·.1)).Nodup → (∀ p ∈ nw, p.1 ≠ I) → (((I, oI) :: nw).map (·.1)).Nodup := fun {nw oI} h1 h2 => by
    rw [List.map_cons, List.nodup_cons]
    exact ⟨fun hm => by obtain ⟨p, hp, e⟩ := List.mem_map.mp hm; exact h2 p hp e, h1⟩
  refine forLoop_C (fun k s' => ∃ h' tk m' news' i, s' = { s with heap := h', toks := tk } ∧ St i h' ∧ Fr h₀ L h' m' ∧ News h₀ L h' news' ∧ (news'.map (·.1)).Nodup ∧ (∀ p ∈ news', p.1 ≠ I) ∧ J i m' news' ∧ i ≤ n ∧ k = n + 1 - i) ?_ (n + 1)
    ⟨s.heap, s.toks, m, news, 0, rfl, hst, F₀, N₀, nd₀, off, h0, Nat.zero_le _, rfl⟩
  rintro k s' ⟨H, tk, m', news', i, rfl, hst', F', N', nd', of', hJ, hi, rfl⟩
  by_cases hlt : i < n
  · refine W.item i _ _ _ hlt hst' fun v h₂ tk₂ hPv hst₂ hk₂ => ?_
    refine hgo (i + 1) v _ _ hst₂ ?_
    obtain ⟨oI, heI⟩ := hIo _ _ hst₂
    have F₂ : Fr h₀ L h₂ m' := fr_but F' hk₂ hIL hI₀
    have N₂ : News h₀ L h₂ ((I, oI) :: news') := fun p hp => by
      rcases List.mem_cons.mp hp with rfl | hp
      · exact ⟨heI, Ne.symm hIL, hI₀⟩
      · exact news_but N' hk₂ of' p hp
    refine wpAny_mono (step i v m' news' h₂ tk₂ oI hlt hPv hJ F₂ N₂ (mk nd' of')) (fun _ s₂ h₂' => wpC_mono h₂' (fun f s₃ h₃ => ?_) fun _ _ x => x) fun _ _ x => x
    have fin : TurnEnd h₀ L s I oI (J (i + 1)) s₃ → ∃ m, m < n + 1 - i ∧ ∃ h' tk m' news' i, s₃ = { s with heap := h', toks := tk } ∧ St i h' ∧ Fr h₀ L h' m' ∧ News h₀ L h' news' ∧ (news'.map (·.1)).Nodup ∧ (∀ p ∈ news', p.1 ≠ I) ∧ J i m' news' ∧ i ≤ n ∧ m = n + 1 - i := by
      rintro ⟨h₄, tk₄, m₂, news₂, rfl, F₄, N₄, nd₄, hJ₄⟩
      obtain ⟨o1, o2⟩ := un nd₄
      have N₄' : News h₀ L h₄ news₂ := fun p hp => N₄ p (.tail _ hp)
      exact ⟨n + 1 - (i + 1), by lia, h₄, tk₄, m₂, news₂, i + 1, rfl, hSt _ _ _ _ _ _ hst₂ heI (N₄ (I, oI) (.head _)).1 F₄.keep N₄' hJ₄, F₄, N₄', o1, o2, hJ₄, hlt, rfl⟩
    cases f with
    | ret v => exact h₃
    | brk => exact h₃
    | cont => exact fin h₃
    | next => exact fin h₃
  · obtain rfl : i = n := by lia
    refine W.done _ _ _ hst' fun h₁ tk₁ hk₁ => ?_
    exact done h₁ tk₁ m' news' hJ (fr_but F' hk₁ hIL hI₀) (news_but N' hk₁ of') nd'
/-- for over a range -/
theorem for_range_C {x : Str} {px : Pos} {body : List Stmt} {r : Addr} {a b : Int} {t u v : Tok} {n : Nat} (J : Nat → (Str → Option Value) → List (Addr × Obj) → Prop) (hh : A.handled = none)
    (F : Fr h₀ L s.heap m) (N : News h₀ L s.heap news) (nd : (news.map (·.1)).Nodup) (hr : IsRange s.heap r a b 1 t u v) (hsm : Builtin.Range.small a b 1 = true) (hn : Builtin.Range.rangeSize a b 1 = ((n : Nat) : Int)) (hJ : J 0 m news)
    (step : ∀ i tv I m₁ news₁ h tk oI, i < n → J i m₁ news₁ → Fr h₀ L h m₁ → News h₀ L h ((I, oI) :: news₁) → (((I, oI) :: news₁).map (·.1)).Nodup →
      wpAny (model prog w) A (assign (.Name x px) env (.int (a + (i : Int)) tv)) (fun _ s₂ => wpC (model prog w) A (execs body env) (fun f s₃ => match f with
        | .next | .cont => TurnEnd h₀ L s I oI (J (i + 1)) s₃
        | .brk => R (.ok .next) s₃
        | .ret v => R (.ok (.ret v)) s₃) (fun _ _ => False) s₂) (fun _ _ => False) { s with heap := h, toks := tk })
    (done : ∀ h tk m₁ news₁, J n m₁ news₁ → Fr h₀ L h m₁ → News h₀ L h news₁ → (news₁.map (·.1)).Nodup → R (.ok .next) { s with heap := h, toks := tk }) :
    wpAny (model prog w) A (pyIter (.ref r)) (fun it s₂ => codeC (model prog w) A (.forLoop (.Name x px) it body [] env) R s₂) E s := by
  refine wpAny_pyIter_range hr hsm ?_
  refine forWalk_C (s := { s with heap := _ }) (m := m) (news := news) J (range_walks hh a n) (fun i h st => ⟨_, st⟩) (fun i h h' o nw mm st e e' k N' hj => range_st i h h' o nw st e e' k N' trivial) (fun _ _ _ _ _ q => wpAny_pure q) hJ (by show IsRangeIter _ _ _ _ _; rw [hn]; simpa using Heap.get?_push_size _ rfl)
    (F.keeps fun _ _ e => Heap.get?_push_of_some _ e) (N.grown fun _ _ e => Heap.get?_push_of_some _ e) nd (fun p hp => Nat.ne_of_lt (Heap.lt_size (N p hp).1)) (Nat.ne_of_lt F.ns.lt) (next_is_new F) ?_ (fun h tk m₁ n₁ h1 h2 h3 h4 => done h tk m₁ n₁ h1 h2 h3 h4)
  rintro i v m₁ n₁ h tk oI hi ⟨tv, rfl⟩ hJ F N nd
  exact step i tv _ m₁ n₁ h tk oI hi hJ F N nd
/-- for over a list -/
theorem for_list_C {target : Expr} {body : List Stmt} {ax : Addr} {its : Array Value} (J : Nat → (Str → Option Value) → List (Addr × Obj) → Prop) (hh : A.handled = none)
    (hgo : ∀ I i v (s' : Shared) (Q : Unit → Shared → Prop), s'.heap.IsListIter I ax i → Q () s' → wpAny (model prog w) A (letOwnedTupleGo target (.ref I) v) Q (fun _ _ => False) s')
    (F : Fr h₀ L s.heap m) (N : News h₀ L s.heap news) (nd : (news.map (·.1)).Nodup) (S : ∀ i mm nw, J i mm nw → SrcAt h₀ ax its nw) (hJ : J 0 m news)
    (step : ∀ i v I m₁ news₁ h tk oI, i < its.size → its[i]? = some v → J i m₁ news₁ → Fr h₀ L h m₁ → News h₀ L h ((I, oI) :: news₁) → (((I, oI) :: news₁).map (·.1)).Nodup →
      wpAny (model prog w) A (assign target env v) (fun _ s₂ => wpC (model prog w) A (execs body env) (fun f s₃ => match f with
        | .next | .cont => TurnEnd h₀ L s I oI (J (i + 1)) s₃
        | .brk => R (.ok .next) s₃
        | .ret v => R (.ok (.ret v)) s₃) (fun _ _ => False) s₂) (fun _ _ => False) { s with heap := h, toks := tk })
    (done : ∀ h tk m₁ news₁, J its.size m₁ news₁ → Fr h₀ L h m₁ → News h₀ L h news₁ → (news₁.map (·.1)).Nodup → R (.ok .next) { s with heap := h, toks := tk }) :
    wpAny (model prog w) A (pyIter (.ref ax)) (fun it s₂ => codeC (model prog w) A (.forLoop target it body [] env) R s₂) E s := by
  have hl := (S _ _ _ hJ).list F.keep N
  have hlt : ax < s.heap.objs.size := by obtain ⟨_, e, _⟩ := hl; exact Heap.lt_size e
  refine wpAny_pyIter_list hl ?_
  have up : ∀ b o, s.heap.get? b = some o → (s.heap.push { cls := .type "list_iterator", data := .fields #[.ref ax, .int 0 0] }).get? b = some o := fun b o e => Heap.get?_push_of_some _ e
  exact forWalk_C (s := { s with heap := _ }) (m := m) (news := news) J (Walks.list hh s.heap.objs.size ax (Nat.ne_of_lt hlt) its) (fun i h st => by obtain ⟨o, e, _⟩ := st.1; exact ⟨o, e⟩) (fun i h h' o nw mm st e e' k N' hj => list_st i h h' o nw st e e' k N' (S _ _ _ hj))
    (fun i v s' Q st q => hgo _ i v s' Q st.1 q) hJ ⟨⟨_, Heap.get?_push_size _ rfl, rfl, rfl⟩, hl.push _⟩
    (F.keeps up) (N.grown up) nd (fun p hp => Nat.ne_of_lt (Heap.lt_size (N p hp).1)) (Nat.ne_of_lt F.ns.lt) (next_is_new F) (fun i v m₁ n₁ h tk oI h1 h2 h3 h4 h5 h6 => step i v _ m₁ n₁ h tk oI h1 h2 h3 h4 h5 h6) (fun h tk m₁ n₁ h1 h2 h3 h4 => done h tk m₁ n₁ h1 h2 h3 h4)
/-- what is left of a for loop when its source stands -/
def ForGo (prog : Program) (w : World) (A : Around) (env : Env) (target : Expr) (body : List Stmt) (Q : Flow → Shared → Prop) (E : Value → Shared → Prop) (x : Value) (s₁ : Shared) : Prop :=
  wpAny (model prog w) A (pyIter x) (fun it s₂ => codeC (model prog w) A (.forLoop target it body [] env) (fun r s' => match r with | .ok f => Q f s' | .error _ => False) s₂) E s₁
theorem exec_For_G {target iter : Expr} {body : List Stmt} {pos : Pos} {Q : Flow → Shared → Prop} (h : wpC (model prog w) A (eval iter env) (ForGo prog w A env target body Q E) E s)
    (hs : ∀ x, foldedSetIterable iter env x = pure x := by intro _; rfl) : wpC (model prog w) A (exec (.For target iter body [] pos) env) Q E s := exec_For_C h hs
/-- lists with elements in this logic -/
theorem eval_List_C {elts : List Expr} {pos : Pos} {Q : Value → Shared → Prop}
    (h : wpC (model prog w) A (spliced (backTo pos (starEach elts env))) (fun vs s₁ => wpAny (model prog w) A (newList vs) Q E s₁) E s) : wpC (model prog w) A (eval (.List elts pos) env) Q E s := by
  rw [arm_eval_List]
  exact wpC_bind (wpC_standAt (wpC_bind (wpC_mono h (fun _ _ x => wpC_any x) fun _ _ x => x)))
theorem eval_Subscript_CC {value slice : Expr} {pos : Pos} {Q : Value → Shared → Prop}
    (h : wpC (model prog w) A (eval value env) (fun o s₁ => wpC (model prog w) A (eval slice env) (fun i s₂ => wpAny (model prog w) A (subscriptTail value slice o i) Q E s₂) E s₁) E s) :
    wpC (model prog w) A (eval (.Subscript value slice pos) env) Q E s := by
  rw [arm_eval_Subscript]
  exact wpC_bind (wpC_mono h (fun o s₁ h₁ => wpC_bind (wpC_holding (wpC_mono h₁ (fun i s₂ h₂ => wpC_bind (wpC_standAt (wpC_any h₂))) fun _ _ x => x))) fun _ _ x => x)
end
end
section
open Sem (wp)
section
variable {prog : Program} {w : World} {A : Around} {E : Value → Shared → Prop} {s : Shared} {h₀ : Heap} {L : Addr} {m : Str → Option Value} {news : List (Addr × Obj)}
theorem bytes_list {l : Addr} {vs : List Value} {ns : List Int} {Q : Value → Shared → Prop} (F : Fr h₀ L s.heap m) (N : News h₀ L s.heap news) (hl : s.heap.IsList l vs.toArray) (hi : IntsAre vs ns) (hr : ∀ n ∈ ns, 0 ≤ n ∧ n < 256) (hz : ns.length ≤ 16777216) (hh : A.handled = none)
    (h : ∀ h' t k, Fr h₀ L h' m → News h₀ L h' news → Q (.bytes (byteArr ns) t) { s with heap := h', toks := k }) : wpAny (model prog w) A (call (.type "bytes") [.ref l]) Q E s :=
  call_bytes_ints hl hi hr (by rw [hi.length, sizeLine_eq]; exact hz) hh fun h' t k hk => h h' t k (F.keeps hk) (N.grown hk)
open Builtin in
theorem gives_mul_nil {n : Int} {t u : Tok} (hf : Bytes.fitsIndex n = true) : Gives («bytes.__mul__» ⟨[.bytes #[] t, .int n u], []⟩) (.val (.bytes #[] t)) := by
  refine .of_wp fun M A E s Q hq => ?_
  show wpAny M A (Bytes.repeatArgs .bytes "__mul__" ⟨[.bytes #[] t, .int n u], []⟩ >>= fun r => _) _ E s
  refine wpAny_bind (wpAny_of_eq (BMul.args_eq hf) ?_)
  refine wpAny_bind (wpAny_of_eq (a := #[]) rfl ?_)
  have e1 : (#[] : Array UInt8).size * n.toNat = (#[] : Array UInt8).size := by simp
  show wpAny M A (if (#[] : Array UInt8).size * n.toNat ≥ 2 ^ 63 then _ else _) _ E s
  rw [if_neg (by rw [e1]; simp)]
  refine bm_if_true (by rw [e1]; exact beq_self_eq_true _) ?_
  refine wpAny_bind (wpAny_typeOf (typeIs_bytes s #[] t) ?_)
  exact wpAny_bind (wpAny_rule (wpAny_pure ⟨_, rfl, hq⟩))
/-- short bytes repeated -/
def rep (b : Array UInt8) (n : Int) : Array UInt8 := ((List.replicate n.toNat b.toList).flatten).toArray
theorem rep_size (b : Array UInt8) (n : Int) : (rep b n).size = n.toNat * b.size := by simp [rep]
theorem bytes_rep {b : Array UInt8} {n : Int} {t u : Tok} {Q : Value → Shared → Prop} (hlo : 0 ≤ n) (hn : n ≤ 1000) (hs : b.size ≤ 1) (h : ∀ t' k, Q (.bytes (rep b n) t') { s with toks := k }) :
    wpAny (model prog w) A (binaryOp .Mult (.bytes b t) (.int n u)) Q E s := by
  by_cases hb : b = #[]
  · subst hb
    have hf : Builtin.Bytes.fitsIndex n = true := by
      simp only [Builtin.Bytes.fitsIndex, Bool.and_eq_true, decide_eq_true_eq]
      lia
    refine wpAny_binaryOp_repeat (T := "bytes") (U := "int") (by decide) (fun s' => typeIs_bytes s' _ t) (fun s' => typeIs_int s' n u) BMul.noFill F.fills_int_mul F.slot_int_rmul BMul.repeats F.slot_int_index.lookup
      (call_gives F.slot_int_rmul (typeIs_int s n u) F.entry_int_rmul (F.args_int_rmul_2 _ _) (BMul.int_declines n u _ t)
        ⟨rfl, call_gives BMul.slot_mul (typeIs_bytes s _ t) BMul.entry_mul (BMul.args_mul _ _) (gives_mul_nil hf) ?_⟩)
    have e : rep #[] n = #[] := Array.eq_empty_of_size_eq_zero (by rw [rep_size]; simp)
    rw [← e]
    exact h t s.toks
  · obtain ⟨l⟩ := b
    exact bytes_mul_any (fun e => hb (by rw [e])) (by lia) (by lia) (by simp only [List.size_toArray] at hs; lia) h
end
end
local macro_rules | `(tactic| walk_at "eval Name") => `(tactic| (k_here; k_dflt (refine' nameX_L ?F ?v ?_ ?a ?b ?c; (case F => k_asm); (case a => exact rfl); (case b => exact rfl); (case c => exact rfl); (case v => assumption))))
local macro_rules | `(tactic| walk_at "inB") => `(tactic| (intro k9 hk9; simp only [List.mem_cons, List.not_mem_nil, or_false] at hk9; walk_at "om"))
local macro_rules | `(tactic| walk_at "intsB") => `(tactic| (first | assumption | l_intsW | l_ints))
local macro_rules | `(tactic| walk_at "subscriptTail") => `(tactic| (k_here; (with_reducible show wpAny _ _ (subscriptTail (Expr.List _ _) _ (Value.ref _) (Value.int _ _)) _ _ _); k_dflt (first | (refine' item_int (b := 8) ?l ?i ?r ?h0 ?h1 ?z ?_ ?s; (case s => with_unfolding_all rfl); (case l => exact News.isList (by k_asm) (by k_mem)); (case i => walk_at "intsB"); (case r => walk_at "inB"); (case h0 => walk_at "om"); (case h1 => (simp only [List.length_cons, List.length_nil]; walk_at "om")); (case z => (simp only [List.length_cons, List.length_nil]; walk_at "om"))) | (refine' item_int (b := 132) ?l ?i ?r ?h0 ?h1 ?z ?_ ?s; (case s => with_unfolding_all rfl); (case l => exact News.isList (by k_asm) (by k_mem)); (case i => walk_at "intsB"); (case r => walk_at "inB"); (case h0 => walk_at "om"); (case h1 => (simp only [List.length_cons, List.length_nil]; walk_at "om")); (case z => (simp only [List.length_cons, List.length_nil]; walk_at "om"))) | (refine' item_int (b := 256) ?l ?i ?r ?h0 ?h1 ?z ?_ ?s; (case s => with_unfolding_all rfl); (case l => exact News.isList (by k_asm) (by k_mem)); (case i => walk_at "intsB"); (case r => walk_at "inB"); (case h0 => walk_at "om"); (case h1 => (simp only [List.length_cons, List.length_nil]; walk_at "om")); (case z => (simp only [List.length_cons, List.length_nil]; walk_at "om")))); intro n9 t9 hn9))
local macro_rules | `(tactic| walk_at "call type:bytes") => `(tactic| (k_here; (with_reducible show wpAny _ _ (call (Value.type "bytes") [Value.ref _]) _ _ _); k_dflt (refine' bytes_list ?F ?N ?l ?i ?r ?z ?hh ?_; (case F => k_asm); (case N => k_asm); (case l => exact News.isList (by k_asm) (by k_mem)); (case i => walk_at "intsB"); (case r => first | assumption | walk_at "inB"); (case z => (simp only [List.length_cons, List.length_nil]; walk_at "om")); (case hh => assumption)); intro h' t' k' F' N'; (try k_sweep)))
local macro_rules | `(tactic| walk_at "szR") => `(tactic| ((try simp only [rep_size, Array.size_append, byteArr_size, List.length_cons, List.length_nil, List.size_toArray, Nat.mul_one]); walk_at "om"))
local macro_rules | `(tactic| walk_at "binaryOp Mult bytes int") => `(tactic| (k_here; (with_reducible show wpAny _ _ (binaryOp Operator.Mult (Value.bytes _ _) (Value.int _ _)) _ _ _); k_dflt (refine' bytes_rep ?a ?b ?c ?_; (case a => walk_at "om"); (case b => walk_at "om"); (case c => walk_at "szR")); intro _ _))
local macro_rules | `(tactic| walk_at "binaryOp Add bytes bytes") => `(tactic| (k_here; (with_reducible show wpAny _ _ (binaryOp Operator.Add (Value.bytes _ _) (Value.bytes _ _)) _ _ _); (refine KBy.add_bytes (by walk_at "szR") ?_); intro _ _))
local macro_rules | `(tactic| walk_at "tailM") => `(tactic| (first | assumption | (refine List.mem_cons_of_mem _ ?_; walk_at "tailM")))
section
theorem begins_L3 : True := by
  w_top off
  exact trivial
theorem nodup_push {a : Addr × Obj} {l : List (Addr × Obj)} (h : ∀ p ∈ l, p.1 ≠ a.1) (nd : (l.map (·.1)).Nodup) : ((a :: l).map (·.1)).Nodup := by
  rw [List.map_cons, List.nodup_cons]
  exact ⟨fun hm => by obtain ⟨p, hp, e⟩ := List.mem_map.mp hm; exact h p hp e, nd⟩
theorem news_perm {h₀ h : Heap} {L : Addr} {l l' : List (Addr × Obj)} (p : l.Perm l') (N : News h₀ L h l) : News h₀ L h l' := fun q hq => N q (p.symm.subset hq)
theorem nodup_perm {l l' : List (Addr × Obj)} (p : l.Perm l') (d : (l.map (·.1)).Nodup) : (l'.map (·.1)).Nodup := (p.map _).nodup_iff.mp d
theorem use_drawP {w : World} {news rest : List (Addr × Obj)} {d c : Addr} {t tb : Tok} {o : Obj} {vs : List Value} {ns : List Int} {cap : Nat} {at_ below : Int} (p : List.Perm news ([(d, o), (c, W.listOf vs.toArray cap)] ++ rest))
    {A A₀ : Around} {base h₀ : Heap} {outer : List Env} {L : Addr} {m mg mb : Str → Option Value} {env : Env} {p' : Program} {loose : List Str} {mean : ExcName → Option Value} {s : Shared} {Q E : Value → Shared → Prop}
    (N : News h₀ L s.heap news) (nd : (news.map (·.1)).Nodup) (hC : Cells vs ns) (hd0 : DeckO w c at_ t o) (lo : (d == sysModules) = false) (ha : 0 ≤ at_) (ha' : at_ ≤ 1000) (hb : 1 ≤ below) (hb' : below ≤ 1000000)
    (F : Fr h₀ L s.heap m) (B : Below A₀ base outer h₀) (X : (Mine0.hd.heap_1 w.params).In h₀) (T : Top p' loose mean mg mb h₀)
    (hA : A.frames = some outer) (hf : env.frame = some L) (hk : env.scope.kind = .function) (hh : A.handled = none) (hd : A.depth + 1 + 10 < recursionLimit) (hu : A.units + 3 + 8 * 10 < cLine)
    (h : ∀ x t1 t2 o' h' tk', Fr h₀ L h' m → News h₀ L h' ((d, o') :: (c, W.listOf vs.toArray cap) :: rest) → (((d, o') :: (c, W.listOf vs.toArray cap) :: rest).map (·.1)).Nodup → (0 ≤ x ∧ x < below) → DeckO w c (at_ + 1) t2 o' → Q (.int x t1) { s with heap := h', toks := tk' }) :
    wpC (model PySem.Challenge.rw_nt0489_01.row.prog w) (A.deeper env) (call (.ref 218) [.ref d, .int below tb]) Q E s := by
  refine use_ctr2 (draw w hC hd0 lo ha ha' hb hb') F (news_perm p N) (nodup_perm p nd) B X T hA hf hk hh hd hu fun v h' tk' l' F' N' nd' hp => ?_
  obtain ⟨x, t1, t2, o', rfl, hx, hd', rfl⟩ := hp
  exact h x t1 t2 o' h' tk' F' N' nd' hx hd'
theorem news_sub {h₀ h : Heap} {L : Addr} {l l' : List (Addr × Obj)} (N : News h₀ L h l) (hs : ∀ p ∈ l', p ∈ l) : News h₀ L h l' := fun q hq => N q (hs q hq)
theorem deckO_eq {w : World} {c : Addr} {a b : Int} {t : Tok} {o : Obj} (h : DeckO w c a t o) (e : a = b) : DeckO w c b t o := e ▸ h
theorem octets (w : World) {d c : Addr} {t : Tok} {o : Obj} {vs : List Value} {ns : List Int} {cap : Nat} {at_ : Int} (hC : Cells vs ns) (hd0 : DeckO w c at_ t o) (lo : (d == sysModules) = false) (ha : 0 ≤ at_) (ha' : at_ ≤ 900) :
    Ctr w 20 225 [.ref d] [(d, o), (c, W.listOf vs.toArray cap)]
      (fun v l' => ∃ b t1 t2 o' at', v = .bytes b t1 ∧ b.size ≤ 200 ∧ (at_ ≤ at' ∧ at' ≤ at_ + 30) ∧ DeckO w c at' t2 o' ∧ l' = [(d, o'), (c, W.listOf vs.toArray cap)]) := by
  intro A A₀ base h₀ outer L m mg mb env p loose mean rest s R B F X₀ LD T hA hf hke hh hd hu ret
  obtain ⟨N, nd⟩ := LD
  have e1 := ownOff_of nd
  have e2 := nodup_rest nd
  have e3 := nodup_own nd
  simp only [List.map_cons, List.map_nil] at e1 e3
  have e4 := ne2 e3
  simp only [List.cons_append, List.nil_append] at N nd
  revert X₀; k_fill; intro X₀
  refine' def_C (binds := [(Str.ofString "deck", .ref d)]) B F X₀ N T hA hf hke ?k6 ?k7 ?k8 ?k9 ?kB ?_ ?c2 ?c3 ?c4 ?c5
  (( (case k6 => k_is); (case k7 => k_is); (case k8 => walk_at "om"); (case k9 => first | exact BindsTo.of_eq rfl | exact binds_K (by k_in) rfl (by k_is) rfl rfl rfl | fail "enter: no rule for these arguments"); (case c5 => decide); (case kB => exact locs rfl); (case c2 => exact rfl); (case c3 => exact rfl); (case c4 => exact rfl)))
  intro g' L' h' FG' F' N' B' X' T' l1
  clear F N FG'
  (repeat' (first | (k_unfold; (try dsimp only)) | (first | (with_reducible first | ((show (_ : Flow → Shared → Prop) _ _); rename Flow → Shared → Prop => K9; rename KR K9 _ => kr9; rename KN K9 _ => kn9; (first | refine kn9 _ ?_ | refine kr9.ret _ _ ?_ | refine kr9.brk _ ?_ | refine kr9.cont _ ?_); clear kn9 kr9 K9; (try dsimp only)) | ((show (_ : Flow → Shared → Prop) _ _); (first | refine kn_go (by assumption) ?_ | refine kr_go (by assumption) ?_); (try dsimp only)) | ((show (_ : Bool → Shared → Prop) _ _); rename Bool → Shared → Prop => K9; rename KT K9 _ => kb9; refine kb9 _ _ ?_; clear kb9 K9; (try dsimp only)))) | ((with_reducible show wpC _ _ _ _ _ _); (first | (((with_reducible show wpC _ _ (callWith _ (Value.type _) _ (backTo _ (starEach (_ :: _) _)) _) _ _ _); refine callWith_CT ?_)) | (((with_reducible show wpC _ _ (call (Value.type "range") _ _) _ _ _); refine wpC_any ?_)) | ((with_reducible show wpC _ _ (call (Value.ref 218) _ _) _ _ _); (try dsimp only); (refine' use_drawP ?zqp ?zqN ?zqnd ?zqC ?zqo ?zqlo ?zqa ?zqb ?zqc ?zqe ?zqF ?zqB ?zqX ?zqT ?zqA ?zqf ?zqk ?zqh ?zqd ?zqu ?_; (case zqN => k_asm); (case zqp => (first | exact List.Perm.refl _ | exact (List.perm_append_comm (l₁ := [_]) (l₂ := [_, _])).append_right _ | exact (List.perm_append_comm (l₁ := [_, _]) (l₂ := [_, _])).append_right _ | exact (List.perm_append_comm (l₁ := [_, _, _]) (l₂ := [_, _])).append_right _ | exact (List.perm_append_comm (l₁ := [_, _, _, _]) (l₂ := [_, _])).append_right _)); (case zqnd => (first | assumption | (refine nodup_push ?zqn1 ?zqn2; (case zqn2 => first | assumption | (refine nodup_push ?zqm1 ?zqm2; (case zqm2 => assumption); (case zqm1 => exact allLt_ne (by first | assumption | walk_at "altl")))); (case zqn1 => exact allLt_ne (by first | assumption | walk_at "altl"))) | (first | assumption | (refine nodup_join ?zqna ?zqnb ?zqnc; (case zqna => (simp only [List.map_cons, List.map_nil]; first | (simp only [List.nodup_cons, List.not_mem_nil, not_false_eq_true, List.nodup_nil, and_self]; done) | (refine nd2 ?_ <;> k_ne) | (refine nd3 ?_ ?_ ?_ <;> k_ne) | (refine nd4 ?_ ?_ ?_ ?_ ?_ ?_ <;> k_ne))); (case zqnb => (simp only [List.map_cons, List.map_nil]; walk_at "off")); (case zqnc => assumption)) | fail "nodup") | fail "nodupP")); (case zqC => assumption); (case zqo => assumption); (case zqlo => assumption); (case zqa => walk_at "om"); (case zqb => walk_at "om"); (case zqc => walk_at "om"); (case zqe => walk_at "om"); (case zqF => k_asm); (case zqB => k_asm); (case zqX => k_asm); (case zqT => k_asm); (case zqA => k_asm); (case zqf => exact rfl); (case zqk => exact rfl); (case zqh => assumption); (case zqd => (first | exact room2 (by assumption) (by decide) | exact room3 (by assumption) (by decide) | walk_at "om")); (case zqu => (first | exact room2 (by assumption) (by decide) | exact room3 (by assumption) (by decide) | walk_at "om"))); intro _ _ _ _ _ _ _ _ _ _ _; (try k_sweep); dsimp only) | ((with_reducible show wpC _ _ (exec (Stmt.For _ _ _ _ _) _) _ _ _); (refine exec_For_G ?_)) | (((with_reducible show wpC _ _ (ite (false = true) _ _) _ _ _); refine wpC_ite_f Bool.false_ne_true ?_)) | (((with_reducible show wpC _ _ (spliced _) _ _ _); show wpC _ _ (spliced ((false, _) :: _)) _ _ _; refine spliced_cons_C ?_)) | (((with_reducible show wpC _ _ (spliced _) _ _ _); show wpC _ _ (spliced []) _ _ _; refine spliced_nil_C ?_)) | (((with_reducible show wpC _ _ (execs (_ :: _) _) _ _ _); refine execs_cons_G ?_; intro _ _ _)) | (((with_reducible show wpC _ _ (exec _ _) _ _ _); refine wpC_any ?_)) | (((with_reducible show wpC _ _ (eval (Expr.Call (Expr.Name _ _) _ _ _) _) _ _ _); refine eval_CallName_C ?_)) | (((with_reducible show wpC _ _ (callWith _ (Value.ref _) _ _ _) _ _ _); first | (refine' callWith_CK0 ?zqk1 ?zqk2 ?_; (case zqk1 => k_in); (case zqk2 => k_is)) | (refine' callWith_CK ?zqk1 ?zqk2 ?_; (case zqk1 => k_asm); (case zqk2 => k_is)))))) | (dsimp only; (with_reducible show wpC _ _ _ _ _ _)) | ((fail_if_success (with_reducible show wpC _ _ _ _ _ _)); (first | walk1 | (dsimp only; walk1)))))
  rename_i h0a x9 t9 t8 o9 h1a tk1 F1 N1 nd1 hx9 hd9 h2a tk2 t1 u1 v1 hr9 F2 N2 K2
  refine for_range_C (n := x9.toNat) (m := _) (news := (d, o9) :: (c, W.listOf vs.toArray cap) :: rest) (fun i m₁ nw => m₁ (Str.ofString "deck") = some (.ref d) ∧ (∃ b tb, m₁ (Str.ofString "found") = some (.bytes b tb) ∧ b.size ≤ (if i = 0 then 0 else 131) + 7 * i) ∧
    ∃ o' t', DeckO w c (at_ + 1 + 2 * (i : Int)) t' o' ∧ nw = (d, o') :: (c, W.listOf vs.toArray cap) :: rest) hh F2 N2 nd1 hr9 (small_one (by lia) (by lia) (by lia) (by lia)) (by rw [rangeSize_nat, Int.sub_zero])
    ⟨rfl, ⟨_, _, rfl, by simp⟩, o9, _, by simpa using hd9, rfl⟩ ?step ?done
  case step =>
    rintro i tv I m₁ nw h tk oI hi ⟨hm1, ⟨b, tb, hm2, hb9⟩, o', t', hd', rfl⟩ F5 N5 nd5
    have hi9 : (i : Int) < 7 := by lia
    have hb8 : b.size ≤ 200 := by split at hb9 <;> lia
    have hb7 : b.size ≤ 131 + 7 * i ∧ (i = 0 → b.size = 0) := by split at hb9 <;> lia
    obtain ⟨hb6, hb5⟩ := hb7
    clear hb9
    obtain ⟨hx91, hx92⟩ := hx9
    (repeat' (first | (k_unfold; (try dsimp only)) | (first | (with_reducible first | ((show (_ : Flow → Shared → Prop) _ _); rename Flow → Shared → Prop => K9; rename KR K9 _ => kr9; rename KN K9 _ => kn9; (first | refine kn9 _ ?_ | refine kr9.ret _ _ ?_ | refine kr9.brk _ ?_ | refine kr9.cont _ ?_); clear kn9 kr9 K9; (try dsimp only)) | ((show (_ : Flow → Shared → Prop) _ _); (first | refine kn_go (by assumption) ?_ | refine kr_go (by assumption) ?_); (try dsimp only)) | ((show (_ : Bool → Shared → Prop) _ _); rename Bool → Shared → Prop => K9; rename KT K9 _ => kb9; refine kb9 _ _ ?_; clear kb9 K9; (try dsimp only)))) | ((with_reducible show wpC _ _ _ _ _ _); (first | (((with_reducible show wpC _ _ (eval (Expr.IfExp _ _ _ _) _) _ _ _); refine wpC_any ?_)) | (((with_reducible show wpC _ _ (callWith _ (Value.type _) _ (backTo _ (starEach (_ :: _) _)) _) _ _ _); refine callWith_CT ?_)) | (((with_reducible show wpC _ _ (eval (Expr.List _ _) _) _ _ _); refine eval_List_C ?_)) | (((with_reducible show wpC _ _ (eval (Expr.Subscript _ (Expr.Call _ _ _ _) _) _) _ _ _); refine eval_Subscript_CC ?_)) | (((with_reducible show wpC _ _ (exec (Stmt.Assign [Expr.Name _ _] (Expr.Subscript _ _ _) _) _) _ _ _); refine exec_AssignName_C ?_)) | (((with_reducible show wpC _ _ (call (Value.type "bytes") _ _) _ _ _); refine wpC_any ?_)) | ((with_reducible show wpC _ _ (call (Value.ref 218) _ _) _ _ _); (try dsimp only); (refine' use_drawP ?zqp ?zqN ?zqnd ?zqC ?zqo ?zqlo ?zqa ?zqb ?zqc ?zqe ?zqF ?zqB ?zqX ?zqT ?zqA ?zqf ?zqk ?zqh ?zqd ?zqu ?_; (case zqN => k_asm); (case zqp => (first | exact List.Perm.refl _ | exact (List.perm_append_comm (l₁ := [_]) (l₂ := [_, _])).append_right _ | exact (List.perm_append_comm (l₁ := [_, _]) (l₂ := [_, _])).append_right _ | exact (List.perm_append_comm (l₁ := [_, _, _]) (l₂ := [_, _])).append_right _ | exact (List.perm_append_comm (l₁ := [_, _, _, _]) (l₂ := [_, _])).append_right _)); (case zqnd => (first | assumption | (refine nodup_push ?zqn1 ?zqn2; (case zqn2 => first | assumption | (refine nodup_push ?zqm1 ?zqm2; (case zqm2 => assumption); (case zqm1 => exact allLt_ne (by first | assumption | walk_at "altl")))); (case zqn1 => exact allLt_ne (by first | assumption | walk_at "altl"))) | (first | assumption | (refine nodup_join ?zqna ?zqnb ?zqnc; (case zqna => (simp only [List.map_cons, List.map_nil]; first | (simp only [List.nodup_cons, List.not_mem_nil, not_false_eq_true, List.nodup_nil, and_self]; done) | (refine nd2 ?_ <;> k_ne) | (refine nd3 ?_ ?_ ?_ <;> k_ne) | (refine nd4 ?_ ?_ ?_ ?_ ?_ ?_ <;> k_ne))); (case zqnb => (simp only [List.map_cons, List.map_nil]; walk_at "off")); (case zqnc => assumption)) | fail "nodup") | fail "nodupP")); (case zqC => assumption); (case zqo => assumption); (case zqlo => assumption); (case zqa => walk_at "om"); (case zqb => walk_at "om"); (case zqc => walk_at "om"); (case zqe => walk_at "om"); (case zqF => k_asm); (case zqB => k_asm); (case zqX => k_asm); (case zqT => k_asm); (case zqA => k_asm); (case zqf => exact rfl); (case zqk => exact rfl); (case zqh => assumption); (case zqd => (first | exact room2 (by assumption) (by decide) | exact room3 (by assumption) (by decide) | walk_at "om")); (case zqu => (first | exact room2 (by assumption) (by decide) | exact room3 (by assumption) (by decide) | walk_at "om"))); intro _ _ _ _ _ _ _ _ _ _ _; (try k_sweep); dsimp only) | (((with_reducible show wpC _ _ (eval (Expr.Subscript _ _ _) _) _ _ _); refine eval_Subscript_C ?_)) | (((with_reducible show wpC _ _ (eval (Expr.Constant _ _ _) _) _ _ _); refine wpC_any ?_)) | (((with_reducible show wpC _ _ (ite (false = true) _ _) _ _ _); refine wpC_ite_f Bool.false_ne_true ?_)) | (((with_reducible show wpC _ _ (spliced _) _ _ _); show wpC _ _ (spliced ((false, _) :: _)) _ _ _; refine spliced_cons_C ?_)) | (((with_reducible show wpC _ _ (spliced _) _ _ _); show wpC _ _ (spliced []) _ _ _; refine spliced_nil_C ?_)) | (((with_reducible show wpC _ _ (execs (_ :: _) _) _ _ _); refine execs_cons_G ?_; intro _ _ _)) | (((with_reducible show wpC _ _ (execs [] _) _ _ _); refine execs_nil_C ?_)) | (((with_reducible show wpC _ _ (exec (Stmt.Assign [Expr.Name _ _] (Expr.Call _ _ _ _) _) _) _ _ _); refine exec_AssignName_C ?_)) | (((with_reducible show wpC _ _ (exec _ _) _ _ _); refine wpC_any ?_)) | (((with_reducible show wpC _ _ (eval (Expr.Call (Expr.Name _ _) _ _ _) _) _ _ _); refine eval_CallName_C ?_)) | (((with_reducible show wpC _ _ (callWith _ (Value.ref _) _ _ _) _ _ _); first | (refine' callWith_CK0 ?zqk1 ?zqk2 ?_; (case zqk1 => k_in); (case zqk2 => k_is)) | (refine' callWith_CK ?zqk1 ?zqk2 ?_; (case zqk1 => k_asm); (case zqk2 => k_is)))))) | (dsimp only; (with_reducible show wpC _ _ _ _ _ _)) | ((fail_if_success (with_reducible show wpC _ _ _ _ _ _)); (first | walk1 | (dsimp only; walk1)))))
    all_goals
      rename DeckO _ _ _ _ _ => hd8
      rename News _ _ _ _ => N8
      rename Fr _ _ _ _ => F8
      refine' ⟨_, _, _, (d, _) :: (c, _) :: rest, rfl, F8, news_sub N8 ?pb, ?pn, hm1, ⟨_, _, rfl, ?d2⟩, _, _, deckO_eq hd8 ?d4, rfl⟩
      case d4 => push_cast; lia
      case pn => exact nd5
      case pb =>
        intro y hy
        rcases List.mem_cons.mp hy with rfl | hy
        · k_mem
        rcases List.mem_cons.mp hy with rfl | hy
        · k_mem
        rcases List.mem_cons.mp hy with rfl | hy
        · k_mem
        walk_at "tailM"
      case d2 =>
        rw [if_neg (Nat.succ_ne_zero i)]
        simp only [rep_size, Array.size_append, byteArr_size, List.length_cons, List.length_nil]
        lia
  case done =>
    rintro h tk m₁ nw ⟨hm1, ⟨b, tb, hm2, hb9⟩, o', t', hd', rfl⟩ F5 N5 nd5
    obtain ⟨hx91, hx92⟩ := hx9
    dsimp only
    (repeat' (first | (k_unfold; (try dsimp only)) | (first | (with_reducible first | ((show (_ : Flow → Shared → Prop) _ _); rename Flow → Shared → Prop => K9; rename KR K9 _ => kr9; rename KN K9 _ => kn9; (first | refine kn9 _ ?_ | refine kr9.ret _ _ ?_ | refine kr9.brk _ ?_ | refine kr9.cont _ ?_); clear kn9 kr9 K9; (try dsimp only)) | ((show (_ : Flow → Shared → Prop) _ _); (first | refine kn_go (by assumption) ?_ | refine kr_go (by assumption) ?_); (try dsimp only)) | ((show (_ : Bool → Shared → Prop) _ _); rename Bool → Shared → Prop => K9; rename KT K9 _ => kb9; refine kb9 _ _ ?_; clear kb9 K9; (try dsimp only)))) | ((with_reducible show wpC _ _ _ _ _ _); (first | (((with_reducible show wpC _ _ (execs (_ :: _) _) _ _ _); refine execs_cons_G ?_; intro _ _ _)) | (((with_reducible show wpC _ _ (exec _ _) _ _ _); refine wpC_any ?_)))) | (dsimp only; (with_reducible show wpC _ _ _ _ _ _)) | ((fail_if_success (with_reducible show wpC _ _ _ _ _ _)); (first | walk1 | (dsimp only; walk1)))))
    refine' ret (.bytes b tb) _ _ [(d, o'), (c, _)] ?pa ?pb nd5 ⟨b, tb, _, o', _, rfl, ?s1, ⟨?s2, ?s3⟩, hd', rfl⟩
    case pa => k_asm
    case pb => k_asm
    case s1 => split at hb9 <;> lia
    case s2 => lia
    case s3 => lia
end
section
open Sem (wp)
section
variable {prog : Program} {w : World} {A : Around} {E : Value → Shared → Prop} {s : Shared} {R : Result → Shared → Prop}
/-- a def with captured names entered -/
theorem def_Cells {K : Frag} {A₀ : Around} {base h₀ : Heap} {outer : List Env} {L : Addr} {m mg mb : Str → Option Value} {env : Env} {news : List (Addr × Obj)} {p : Program} {loose : List Str} {mean : ExcName → Option Value}
    {name qual : Str} {params : Arguments} {body : List Stmt} {scope : Scope} {dV kV doc pm cdv ct oc : Value} {an od : Option Addr} {osl : Array (Option Value)} {f : Addr} {args : Args} {binds : List (Str × Value)}
    (B : Below A₀ base outer h₀) (F : Fr h₀ L s.heap m) (X₀ : K.In h₀) (N : News h₀ L s.heap news) (T : Top p loose mean mg mb h₀) (hA : A.frames = some (env :: outer)) (hf : env.frame = some L) (hke : env.scope.kind = .function)
    (ho : K.lookup f = some ⟨oc, od, .func (fnOf name qual params body scope dV kV doc pm an cdv ct), osl⟩) (hcd : codeIn K cdv qual = true) (hroom : A.depth < recursionLimit)
    (hbind : BindsTo s (fnOf name qual params body scope dV kV doc pm an cdv ct) args binds)
    (hkind : ∀ n, ∀ x ∈ binds, scope.names.lookup x.1 = some .local ∨ (scope.names.lookup x.1 = some .cell ∧ ((cellsFrom n scope.names []).lookup x.1).isSome = true))
    (hnd : ((cellsFrom 0 scope.names []).map (·.1)).Nodup)
    (h : ∀ g L' h₁ tk cells, Fr h₀ L g m → Fr g L' h₁ (bindL (envOfC qual scope L' f cdv).kindOf binds fun _ => none) → News g L' h₁ (cells ++ news) →
      CellsAre (bindC (envOfC qual scope L' f cdv).kindOf binds fun _ => none) (cellsFrom (L' + 1) scope.names []) cells → Below A base (env :: outer) g → K.In g → Top p loose mean mg mb g → (∀ p ∈ news, p.1 < L') →
      wpC (model prog w) (A.deeper (envOfC qual scope L' f cdv)) (execs body (envOfC qual scope L' f cdv))
        (fun fl s' => LeaveK h₀ L m g R (match fl with | .ret v => v | _ => .none) s')
        (fun _ _ => False)
        { s with heap := h₁, toks := tk })
    (hco : scope.isCoroutine = false) (hgen : scope.isGenerator = false) (hk : scope.kind = .function) : codeC (model prog w) A (.call (.ref f) args) R s := by
  obtain ⟨FG, BG, st, lv⟩ := groundX (R := R) B F N hA hf hke
  refine codeC_call_function (fd := fnOf name qual params body scope dV kV doc pm an cdv ct) (body := body) hroom ((X₀.keeps F.keep) _ _ ho) rfl hco hgen rfl (codeRec_of (X₀.keeps F.keep) hcd) (hbind _ _ _ _ ?_)
  refine wpAny_newFunctionEnv_cells hk (hkind _) fun env' he s' x => ?_
  subst he
  refine ⟨(T.nolimit.keeps F.keep).keeps x.toInCall.keep, codeC_func ?_⟩
  obtain ⟨h₁, tk, rfl, _⟩ := x.done
  have hk₁ := x.toInCall.keep
  obtain ⟨cells, NC, Y⟩ := Cl.news (h₀ := s.heap) (Nat.le_refl _) fun n c hm => ⟨x.cell n c (lookup_of_mem_nodup (cellsFrom_names scope.names 0 (s.heap.objs.size + 1) [] [] rfl ▸ hnd) hm), x.above n c hm⟩
  refine wpC_mono (h _ s.heap.objs.size h₁ tk cells FG ⟨x.toInCall.ns, fun b o e => hk₁ b o (of_hideAll _ e), Nat.le_of_eq (hideAll_size _ _)⟩ (fun p hp => ?_) Y BG (X₀.keeps st) (T.keeps st) (fun p hp => Heap.lt_size (N p hp).1)) (fun fl s' hl => lv _ _ hl) fun _ _ y => y.elim
  rcases List.mem_append.mp hp with hp | hp
  · refine ⟨(NC p hp).1, (NC p hp).2.1, ?_⟩
    cases q : (hideAll s.heap (news.map (·.1))).get? p.1 with
    | none => rfl
    | some o => have := of_hideAll _ q; rw [(NC p hp).2.2] at this; cases this
  · exact ⟨hk₁ _ _ (N p hp).1, Nat.ne_of_lt (Heap.lt_size (N p hp).1), hideAll_none _ (List.mem_map_of_mem hp)⟩
end
end
section
theorem begins_L4 : True := by
  w_top off
  exact trivial
theorem picked_part {b : Array UInt8} {lo hi : Int} (h0 : 0 ≤ lo) (h1 : lo ≤ hi) (h2 : hi ≤ b.size) :
    KBy.picked b none (some lo) ++ KBy.picked b (some lo) (some hi) ++ KBy.picked b (some hi) none = b := by
  obtain ⟨l, rfl⟩ := Int.eq_ofNat_of_zero_le h0
  obtain ⟨h, rfl⟩ := Int.eq_ofNat_of_zero_le (Int.le_trans h0 h1)
  have a1 : l ≤ h := by lia
  have a2 : h ≤ b.toList.length := by simp; lia
  have a3 : b.size = b.toList.length := by simp
  rw [KBc.picked_eq, KBc.picked_eq, KBc.picked_eq]
  simp only [Option.elim, clipAt_nat]
  rw [a3, Nat.min_eq_left (Nat.le_trans a1 a2), Nat.min_eq_left a2]
  simp only [List.append_toArray, List.drop_zero, Nat.sub_zero]
  have e1 : b.toList.take l ++ (b.toList.drop l).take (h - l) = b.toList.take h := by
    have := (List.take_append_drop l (b.toList.take h)).symm
    rw [List.take_take, Nat.min_eq_left a1, List.drop_take] at this
    exact this.symm
  have e2 : (b.toList.drop h).take (b.toList.length - h) = b.toList.drop h := List.take_of_length_le (by simp)
  rw [e1, e2, List.take_append_drop]
theorem sort2 {vs' : List Value} {ns' zs : List Int} {n : Nat} (hi : IntsAre vs' ns') (hl : zs.length = 2) (hp : ns'.Perm zs) (hs : ns'.Pairwise (· ≤ ·)) (hb : ∀ z ∈ zs, 0 ≤ z ∧ z < (n : Int) + 1) :
    ∃ lo t1 hi t2, vs' = [.int lo t1, .int hi t2] ∧ ns' = [lo, hi] ∧ 0 ≤ lo ∧ lo ≤ hi ∧ hi ≤ n := by
  have h2 := hp.length_eq
  rw [hl] at h2
  match ns', h2, hi, hs, hp with
  | [x, y], _, hi, hs, hp =>
    cases hi with | cons _ t1 hi =>
    cases hi with | cons _ t2 hi =>
    cases hi
    have b1 := hb x (hp.subset (.head _))
    have b2 := hb y (hp.subset (.tail _ (.head _)))
    have b3 : x ≤ y := by
      rw [List.pairwise_cons] at hs
      exact hs.1 y (.head _)
    exact ⟨x, t1, y, t2, rfl, rfl, b1.1, b3, by lia⟩
theorem pieces (w : World) {d c : Addr} {t tb : Tok} {o : Obj} {vs : List Value} {ns : List Int} {cap : Nat} {at_ : Int} {b : Array UInt8} (hC : Cells vs ns) (hd0 : DeckO w c at_ t o) (lo : (d == sysModules) = false) (ha : 0 ≤ at_) (ha' : at_ ≤ 900) (hb : b.size ≤ 100000) :
    Ctr w 20 242 [.ref d, .bytes b tb] [(d, o), (c, W.listOf vs.toArray cap)]
      (fun v l' => ∃ r p1 p2 p3 t1 t2 t3 t4 o' cap', v = .ref r ∧ p1 ++ p2 ++ p3 = b ∧ DeckO w c (at_ + 2) t4 o' ∧ l' = [(r, W.listOf #[.bytes p1 t1, .bytes p2 t2, .bytes p3 t3] cap'), (d, o'), (c, W.listOf vs.toArray cap)]) := by
  intro A A₀ base h₀ outer L m mg mb env p loose mean rest s R B F X₀ LD T hA hf hke hh hd hu ret
  obtain ⟨N, nd⟩ := LD
  have e1 := ownOff_of nd
  have e2 := nodup_rest nd
  have e3 := nodup_own nd
  simp only [List.map_cons, List.map_nil] at e1 e3
  have e4 := ne2 e3
  simp only [List.cons_append, List.nil_append] at N nd
  revert X₀; k_fill; intro X₀
  refine' def_Cells (binds := [(Str.ofString "deck", .ref d), (Str.ofString "octets", .bytes b tb)]) B F X₀ N T hA hf hke ?k6 ?k7 ?k8 ?k9 ?kB ?kC ?_ ?c2 ?c3 ?c4
  case k6 => k_is
  case k7 => k_is
  case k8 => lia
  case k9 => first | exact BindsTo.of_eq rfl | exact binds_K (by k_in) rfl (by k_is) rfl rfl rfl
  case kB => exact fun n => kinds_of ⟨.inr ⟨rfl, rfl⟩, .inr ⟨rfl, rfl⟩, trivial⟩
  case kC => decide
  case c2 => exact rfl
  case c3 => exact rfl
  case c4 => exact rfl
  intro g' L' h' tk0 cells FG' F' N' Y B' X' T' l1
  obtain ⟨q1, q2, rfl, hq1, hq2⟩ := CellsAre.two Y
  clear F N FG'
  replace hq1 : q1.data = .cell (some (.bytes b tb)) := hq1
  replace hq2 : q2.data = .cell (some (.ref d)) := hq2
  replace F' : Fr g' L' h' (fun _ => none) := F'
  replace N' : News g' L' h' ((d, o) :: (c, W.listOf vs.toArray cap) :: (L' + 1 + 1, q1) :: (L' + 1, q2) :: rest) := news_perm ((List.perm_append_comm (l₁ := [_, _]) (l₂ := [_, _])).append_right _) N'
  have lr : ∀ p ∈ rest, p.1 < L' := fun p hp => l1 p (.tail _ (.tail _ hp))
  have ld : d < L' := l1 (d, o) (.head _)
  have lc : c < L' := l1 (c, _) (.tail _ (.head _))
  have nd9 : (((d, o) :: (c, W.listOf vs.toArray cap) :: (L' + 1 + 1, q1) :: (L' + 1, q2) :: rest).map (·.1)).Nodup := by
    refine nodup_perm (l := (L' + 1 + 1, q1) :: (L' + 1, q2) :: (d, o) :: (c, W.listOf vs.toArray cap) :: rest) ((List.perm_append_comm (l₁ := [_, _]) (l₂ := [_, _])).append_right _) (nodup_push ?_ (nodup_push ?_ nd))
    · intro p hp
      rcases List.mem_cons.mp hp with rfl | hp
      · exact Nat.ne_of_lt (Nat.lt_succ_self _)
      · exact Nat.ne_of_lt (Nat.lt_succ_of_lt (Nat.lt_succ_of_lt (l1 p hp)))
    · intro p hp
      exact Nat.ne_of_lt (Nat.lt_succ_of_lt (l1 p hp))
  clear Y
  (repeat' (first | (k_unfold; (try dsimp only)) | (first | (with_reducible first | ((show (_ : Flow → Shared → Prop) _ _); rename Flow → Shared → Prop => K9; rename KR K9 _ => kr9; rename KN K9 _ => kn9; (first | refine kn9 _ ?_ | refine kr9.ret _ _ ?_ | refine kr9.brk _ ?_ | refine kr9.cont _ ?_); clear kn9 kr9 K9; (try dsimp only)) | ((show (_ : Flow → Shared → Prop) _ _); (first | refine kn_go (by assumption) ?_ | refine kr_go (by assumption) ?_); (try dsimp only)) | ((show (_ : Bool → Shared → Prop) _ _); rename Bool → Shared → Prop => K9; rename KT K9 _ => kb9; refine kb9 _ _ ?_; clear kb9 K9; (try dsimp only)))) | ((with_reducible show wpC _ _ _ _ _ _); (first | (((with_reducible show wpC _ _ (eval (Expr.ListComp _ _ _ _) _) _ _ _); (refine' ListComp_C ?zqc1 ?zqc3 ?zqc4 ?_ ?zqc6; (case zqc1 => exact rfl); (case zqc3 => exact rfl); (case zqc4 => decide); (case zqc6 => (intro _; exact rfl))))) | (((with_reducible show wpC _ _ (callWith _ (Value.builtin _) _ (backTo _ (starEach (_ :: _) _)) _) _ _ _); refine callWith_CBC ?_)) | (((with_reducible show wpC _ _ (callWith _ (Value.type _) _ (backTo _ (starEach (_ :: _) _)) _) _ _ _); refine callWith_CT ?_)) | (((with_reducible show wpC _ _ (call (Value.type "range") _ _) _ _ _); refine wpC_any ?_)) | (((with_reducible show wpC _ _ (eval (Expr.Constant _ _ _) _) _ _ _); refine wpC_any ?_)) | (((with_reducible show wpC _ _ (ite (false = true) _ _) _ _ _); refine wpC_ite_f Bool.false_ne_true ?_)) | (((with_reducible show wpC _ _ (spliced _) _ _ _); show wpC _ _ (spliced ((false, _) :: _)) _ _ _; refine spliced_cons_C ?_)) | (((with_reducible show wpC _ _ (spliced _) _ _ _); show wpC _ _ (spliced []) _ _ _; refine spliced_nil_C ?_)) | (((with_reducible show wpC _ _ (execs (_ :: _) _) _ _ _); refine execs_cons_G ?_; intro _ _ _)) | (((with_reducible show wpC _ _ (exec (Stmt.Assign [Expr.Name _ _] (Expr.Call _ _ _ _) _) _) _ _ _); refine exec_AssignName_C ?_)) | (((with_reducible show wpC _ _ (eval (Expr.Call (Expr.Name _ _) _ _ _) _) _ _ _); refine eval_CallName_C ?_)))) | (dsimp only; (with_reducible show wpC _ _ _ _ _ _)) | ((fail_if_success (with_reducible show wpC _ _ _ _ _ _)); (first | walk1 | (dsimp only; walk1)))))
  rename_i h1 tk1 t1 u1 v1 hr1 F1 N1 K1
  refine compGo_range (n := 2) (m := fun _ => none) (news := (d, o) :: (c, W.listOf vs.toArray cap) :: (L' + 1 + 1, q1) :: (L' + 1, q2) :: rest) (fun i ys nw => ∃ o' t' zs, DeckO w c (at_ + (i : Int)) t' o' ∧ nw = (d, o') :: (c, W.listOf vs.toArray cap) :: (L' + 1 + 1, q1) :: (L' + 1, q2) :: rest ∧ IntsAre ys zs ∧ zs.length = i ∧ ∀ z ∈ zs, 0 ≤ z ∧ z < (b.size : Int) + 1)
    hh (by decide) rfl rfl F1 N1 nd9 hr1 (small_one (by decide) (by decide) (by decide) (by decide)) (by rw [rangeSize_nat]; rfl) (by rw [sizeLine_eq]; decide) ⟨o, t, [], by simpa using hd0, rfl, .nil, rfl, fun _ h => nomatch h⟩ ?step ?fin
  case step =>
    rintro i v ys nw I oI C oC D m₂ h tk hi9 ⟨tv, rfl⟩ ⟨o', t', zs, hd', rfl, z1, z2, z3⟩ hC9 hx9 F5 N5 nd5
    (repeat' (first | (k_unfold; (try dsimp only)) | (first | (with_reducible first | ((show (_ : Flow → Shared → Prop) _ _); rename Flow → Shared → Prop => K9; rename KR K9 _ => kr9; rename KN K9 _ => kn9; (first | refine kn9 _ ?_ | refine kr9.ret _ _ ?_ | refine kr9.brk _ ?_ | refine kr9.cont _ ?_); clear kn9 kr9 K9; (try dsimp only)) | ((show (_ : Flow → Shared → Prop) _ _); (first | refine kn_go (by assumption) ?_ | refine kr_go (by assumption) ?_); (try dsimp only)) | ((show (_ : Bool → Shared → Prop) _ _); rename Bool → Shared → Prop => K9; rename KT K9 _ => kb9; refine kb9 _ _ ?_; clear kb9 K9; (try dsimp only)))) | ((with_reducible show wpC _ _ _ _ _ _); (first | ((with_reducible show wpC _ _ (call (Value.ref 218) _ _) _ _ _); (try dsimp only); (refine' use_drawP ?zqp ?zqN ?zqnd ?zqC ?zqo ?zqlo ?zqa ?zqb ?zqc ?zqe ?zqF ?zqB ?zqX ?zqT ?zqA ?zqf ?zqk ?zqh ?zqd ?zqu ?_; (case zqN => k_asm); (case zqp => (first | exact List.Perm.refl _ | exact (List.perm_append_comm (l₁ := [_]) (l₂ := [_, _])).append_right _ | exact (List.perm_append_comm (l₁ := [_, _]) (l₂ := [_, _])).append_right _ | exact (List.perm_append_comm (l₁ := [_, _, _]) (l₂ := [_, _])).append_right _ | exact (List.perm_append_comm (l₁ := [_, _, _, _]) (l₂ := [_, _])).append_right _)); (case zqnd => (first | assumption | (refine nodup_push ?zqn1 ?zqn2; (case zqn2 => first | assumption | (refine nodup_push ?zqm1 ?zqm2; (case zqm2 => assumption); (case zqm1 => exact allLt_ne (by first | assumption | walk_at "altl")))); (case zqn1 => exact allLt_ne (by first | assumption | walk_at "altl"))) | (first | assumption | (refine nodup_join ?zqna ?zqnb ?zqnc; (case zqna => (simp only [List.map_cons, List.map_nil]; first | (simp only [List.nodup_cons, List.not_mem_nil, not_false_eq_true, List.nodup_nil, and_self]; done) | (refine nd2 ?_ <;> k_ne) | (refine nd3 ?_ ?_ ?_ <;> k_ne) | (refine nd4 ?_ ?_ ?_ ?_ ?_ ?_ <;> k_ne))); (case zqnb => (simp only [List.map_cons, List.map_nil]; walk_at "off")); (case zqnc => assumption)) | fail "nodup") | fail "nodupP")); (case zqC => assumption); (case zqo => assumption); (case zqlo => assumption); (case zqa => walk_at "om"); (case zqb => walk_at "om"); (case zqc => walk_at "om"); (case zqe => walk_at "om"); (case zqF => k_asm); (case zqB => k_asm); (case zqX => k_asm); (case zqT => k_asm); (case zqA => k_asm); (case zqf => exact rfl); (case zqk => exact rfl); (case zqh => assumption); (case zqd => (first | exact room2 (by assumption) (by decide) | exact room3 (by assumption) (by decide) | walk_at "om")); (case zqu => (first | exact room2 (by assumption) (by decide) | exact room3 (by assumption) (by decide) | walk_at "om"))); intro _ _ _ _ _ _ _ _ _ _ _; (try k_sweep); dsimp only) | (((with_reducible show wpC _ _ (eval (Expr.Call (Expr.Name _ _) _ _ _) _) _ _ _); refine eval_CallName_C ?_)) | (((with_reducible show wpC _ _ (callWith _ (Value.ref _) _ _ _) _ _ _); first | (refine' callWith_CK0 ?zqk1 ?zqk2 ?_; (case zqk1 => k_in); (case zqk2 => k_is)) | (refine' callWith_CK ?zqk1 ?zqk2 ?_; (case zqk1 => k_asm); (case zqk2 => k_is)))))) | (dsimp only; (with_reducible show wpC _ _ _ _ _ _)) | ((fail_if_success (with_reducible show wpC _ _ _ _ _ _)); (first | walk1 | (dsimp only; walk1)))))
    rename_i x3 t3 t4 o3 h3 tk3 F3 N3 nd3 hx3 hd3
    have pp := (List.perm_append_comm (l₁ := [(d, o3), (c, W.listOf vs.toArray cap)]) (l₂ := [(I, oI), (C, oC), (D, LCg.lst ys)])).append_right ((L' + 1 + 1, q1) :: (L' + 1, q2) :: rest)
    refine ⟨h3, tk3, (d, o3) :: (c, W.listOf vs.toArray cap) :: (L' + 1 + 1, q1) :: (L' + 1, q2) :: rest, rfl, F3, news_perm pp N3, nodup_perm pp nd3, o3, t4, zs ++ [x3], deckO_eq hd3 (by push_cast; lia), rfl, IntsAre.append z1 (.cons _ _ .nil), by rw [List.length_append, List.length_singleton, z2], fun z hz => ?_⟩
    rcases List.mem_append.mp hz with hz | hz
    · exact z3 z hz
    · rw [List.mem_singleton.mp hz]
      exact ⟨hx3.1, by lia⟩
  case fin =>
    rintro D h tk ys nw F5 N5 nd5 ⟨o', t', zs, hd', rfl, z1, z2, z3⟩
    (repeat' (first | (k_unfold; (try dsimp only)) | (first | (with_reducible first | ((show (_ : Flow → Shared → Prop) _ _); rename Flow → Shared → Prop => K9; rename KR K9 _ => kr9; rename KN K9 _ => kn9; (first | refine kn9 _ ?_ | refine kr9.ret _ _ ?_ | refine kr9.brk _ ?_ | refine kr9.cont _ ?_); clear kn9 kr9 K9; (try dsimp only)) | ((show (_ : Flow → Shared → Prop) _ _); (first | refine kn_go (by assumption) ?_ | refine kr_go (by assumption) ?_); (try dsimp only)) | ((show (_ : Bool → Shared → Prop) _ _); rename Bool → Shared → Prop => K9; rename KT K9 _ => kb9; refine kb9 _ _ ?_; clear kb9 K9; (try dsimp only)))) | ((with_reducible show wpC _ _ _ _ _ _); (first | (((with_reducible show wpC _ _ (call (Value.builtin "sorted") _ _) _ _ _); refine wpC_any ?_)) | (((with_reducible show wpC _ _ (spliced _) _ _ _); show wpC _ _ (spliced []) _ _ _; refine spliced_nil_C ?_)))) | (dsimp only; (with_reducible show wpC _ _ _ _ _ _)) | ((fail_if_success (with_reducible show wpC _ _ _ _ _ _)); (first | walk1 | (dsimp only; walk1)))))
    show wpAny _ _ (call (.builtin "sorted") [.ref D]) _ _ _
    refine kso_sorted F5 N5 (News.isList N5 (.head _)) z1 (by lia) fun D2 vs2 ns2 c2 h2 F6 N6 l6 i6 e6 p6 s6 _ => ?_
    obtain ⟨lo2, t1, hi2, t2, rfl, rfl, b1, b2, b3⟩ := sort2 i6 z2 p6 s6 z3
    clear F5 N5
    (repeat' (first | (k_unfold; (try dsimp only)) | (first | (with_reducible first | ((show (_ : Flow → Shared → Prop) _ _); rename Flow → Shared → Prop => K9; rename KR K9 _ => kr9; rename KN K9 _ => kn9; (first | refine kn9 _ ?_ | refine kr9.ret _ _ ?_ | refine kr9.brk _ ?_ | refine kr9.cont _ ?_); clear kn9 kr9 K9; (try dsimp only)) | ((show (_ : Flow → Shared → Prop) _ _); (first | refine kn_go (by assumption) ?_ | refine kr_go (by assumption) ?_); (try dsimp only)) | ((show (_ : Bool → Shared → Prop) _ _); rename Bool → Shared → Prop => K9; rename KT K9 _ => kb9; refine kb9 _ _ ?_; clear kb9 K9; (try dsimp only)))) | ((with_reducible show wpC _ _ _ _ _ _); (first | (((with_reducible show wpC _ _ (execs (_ :: _) _) _ _ _); refine execs_cons_G ?_; intro _ _ _)) | (((with_reducible show wpC _ _ (exec _ _) _ _ _); refine wpC_any ?_)))) | (dsimp only; (with_reducible show wpC _ _ _ _ _ _)) | ((fail_if_success (with_reducible show wpC _ _ _ _ _ _)); (first | walk1 | (dsimp only; walk1)))))
    rename News _ _ _ _ => N8
    rename Fr _ _ _ _ => F8
    rename_i ga gt gb gt2 gk p1 q9a z9a gt3 gt4 gc gt5 gk2 p2 q9b z9b gt6 gd gt7 gk3 p3 q9c z9c r h9 F9 N9 l9 T9 X9
    obtain ⟨_, _, y1, y2, _, _, y3⟩ := l9
    refine ret (.ref r) h9 _ [(r, W.listOf #[.bytes p1 gt2, .bytes p2 gt5, .bytes p3 gt7] 0), (d, o'), (c, W.listOf vs.toArray cap)] F8 (news_sub N8 ?ps) ?pn ⟨r, p1, p2, p3, _, _, _, t', o', _, rfl, ?pp, hd', rfl⟩
    case ps =>
      intro y hy
      rcases List.mem_cons.mp hy with rfl | hy
      · k_mem
      rcases List.mem_cons.mp hy with rfl | hy
      · k_mem
      rcases List.mem_cons.mp hy with rfl | hy
      · k_mem
      walk_at "tailM"
    case pn =>
      refine nodup_push ?_ nd
      intro p hp
      rcases List.mem_cons.mp hp with rfl | hp
      · exact Nat.ne_of_lt y1
      rcases List.mem_cons.mp hp with rfl | hp
      · exact Nat.ne_of_lt y2
      exact allLt_ne y3 p hp
    case pp =>
      rw [q9a, q9b, q9c]
      exact picked_part b1 b2 b3
end
section
open Sem (wp)
section
variable {prog : Program} {w : World} {A : Around} {E : Value → Shared → Prop} {s : Shared} {R : Result → Shared → Prop} {env : Env} {h₀ : Heap} {L : Addr} {m : Str → Option Value} {news : List (Addr × Obj)}
theorem whileLoop_C {test : Expr} {body : List Stmt} (I : Nat → Shared → Prop)
    (turn : ∀ n s, I n s → wpAny (model prog w) A (isTrue test env (eval test env)) (fun b s₂ =>
        if b = true then wpC (model prog w) A (execs body env) (fun f s₃ => match f with
            | .next | .cont => ∃ m, m < n ∧ I m s₃
            | .brk => R (.ok .next) s₃
            | .ret v => R (.ok (.ret v)) s₃) (fun _ _ => False) s₂
        else R (.ok .next) s₂) (fun _ _ => False) s)
    (n : Nat) (h : I n s) : codeC (model prog w) A (.whileLoop test body [] env) R s := by
  refine codeC_loop rfl rfl I (fun n s hI => ?_) n h
  have hu : A.under (.whileLoop test body [] env) = A := Around.under_of_weight rfl
  rw [hu]
  show wpC _ A ((whileTurn test body [] env).onRaise (fun x => do noteFrame x env; theTreesLotGoes x)) _ _ s
  refine wpC_onRaise (wpC_mono (Q := fun (fin : Fin) s' => match fin with | .done f => R (.ok f) s' | .again c' => (c' = .whileLoop test body [] env ∧ ∃ m, m < n ∧ I m s') ∨ (c'.quiet = true ∧ codeC (model prog w) A c' R s')) (E := fun _ _ => False) ?_ (fun _ _ x => x) fun _ _ x => x.elim)
  unfold whileTurn
  refine wpC_bindA (wpAny_mono (turn n s hI) (fun b s₂ h₂ => ?_) fun _ _ x => x)
  cases b with
  | true =>
    refine wpC_bind (wpC_mono h₂ (fun f s₃ h₃ => ?_) fun _ _ x => x)
    cases f with
    | next => exact wpC_pure (.inl ⟨rfl, h₃⟩)
    | cont => exact wpC_pure (.inl ⟨rfl, h₃⟩)
    | brk => exact wpC_pure h₃
    | ret v => exact wpC_pure h₃
  | false => exact wpC_bind (execs_nil_C (wpC_pure h₂))
def WTurn (h₀ : Heap) (L : Addr) (s : Shared) (k : Nat) (J : Nat → (Str → Option Value) → List (Addr × Obj) → Prop) (s₃ : Shared) : Prop :=
  ∃ h' tk' m₂ nw₂ k', k' < k ∧ s₃ = { s with heap := h', toks := tk' } ∧ Fr h₀ L h' m₂ ∧ News h₀ L h' nw₂ ∧ (nw₂.map (·.1)).Nodup ∧ J k' m₂ nw₂
theorem exec_While_C {test : Expr} {body : List Stmt} {pos : Pos} {n : Nat} {Q : Flow → Shared → Prop} (J : Nat → (Str → Option Value) → List (Addr × Obj) → Prop)
    (F : Fr h₀ L s.heap m) (N : News h₀ L s.heap news) (nd : (news.map (·.1)).Nodup) (h0 : J n m news)
    (step : ∀ k m₁ nw h tk, J k m₁ nw → Fr h₀ L h m₁ → News h₀ L h nw → (nw.map (·.1)).Nodup → wpAny (model prog w) A (isTrue test env (eval test env)) (fun b s₂ =>
        if b = true then wpC (model prog w) A (execs body env) (fun f s₃ => match f with
            | .next | .cont => WTurn h₀ L s k J s₃
            | .brk => Q .next s₃
            | .ret v => Q (.ret v) s₃) (fun _ _ => False) s₂
        else Q .next s₂) (fun _ _ => False) { s with heap := h, toks := tk }) :
    wpC (model prog w) A (exec (.While test body [] pos) env) Q E s := by
  rw [arm_exec_While]
  refine wpC_bind (wpC_standAt ?_)
  unfold runOwn
  refine wpC_onRaise (wpC_run (h := none) ?_)
  refine whileLoop_C (R := fun r s' => match r with | .ok f => Q f s' | .error e => _) (fun k s' => ∃ h' tk m' nw, s' = { s with heap := h', toks := tk } ∧ Fr h₀ L h' m' ∧ News h₀ L h' nw ∧ (nw.map (·.1)).Nodup ∧ J k m' nw) ?_ n ⟨s.heap, s.toks, m, news, rfl, F, N, nd, h0⟩
  rintro k s' ⟨h', tk, m', nw, rfl, F', N', nd', hJ⟩
  refine wpAny_mono (step k m' nw h' tk hJ F' N' nd') (fun b s₂ h₂ => ?_) fun _ _ x => x
  cases b with
  | false => exact h₂
  | true =>
    refine wpC_mono h₂ (fun f s₃ h₃ => ?_) fun _ _ x => x
    have fin : WTurn h₀ L s k J s₃ → ∃ m, m < k ∧ ∃ h' tk m' nw, s₃ = { s with heap := h', toks := tk } ∧ Fr h₀ L h' m' ∧ News h₀ L h' nw ∧ (nw.map (·.1)).Nodup ∧ J m m' nw := by
      rintro ⟨h₄, tk₄, m₂, nw₂, k', hk, rfl, F₄, N₄, nd₄, hJ₄⟩
      exact ⟨k', hk, h₄, tk₄, m₂, nw₂, rfl, F₄, N₄, nd₄, hJ₄⟩
    cases f with
    | ret v => exact h₃
    | brk => exact h₃
    | cont => exact fin h₃
    | next => exact fin h₃
def StopW (P : Prop) : Prop := P
theorem exec_While_stop {M : Model} {test : Expr} {body : List Stmt} {pos : Pos} {Q : Flow → Shared → Prop} (h : StopW (wpC M A (exec (.While test body [] pos) env) Q E s)) : wpC M A (exec (.While test body [] pos) env) Q E s := h
end
end
section
/-- a lot of the coding: a run or not, its octets -/
abbrev Lot := Bool × List UInt8
def lotsL : List UInt8 → Option (List Lot × Option (List UInt8))
  | [] => some ([], none)
  | s :: r => if s.toNat = 128 then some ([], some r)
    else if s.toNat < 128 then (if r.length ≤ s.toNat then none else (lotsL (r.drop (s.toNat + 1))).map fun x => ((false, r.take (s.toNat + 1)) :: x.1, x.2))
    else match r with
      | [] => none
      | c :: r' => (lotsL r').map fun x => ((true, List.replicate (257 - s.toNat) c) :: x.1, x.2)
termination_by l => l.length
decreasing_by all_goals (simp only [List.length_cons, List.length_drop]; lia)
theorem lotsL_nil : lotsL [] = some ([], none) := by rw [lotsL.eq_def]
theorem lotsL_mark {s : UInt8} {r : List UInt8} (h : s.toNat = 128) : lotsL (s :: r) = some ([], some r) := by rw [lotsL.eq_def]; dsimp only; rw [if_pos h]
theorem lotsL_plain {s : UInt8} {r : List UInt8} (h : s.toNat < 128) (h2 : s.toNat < r.length) : lotsL (s :: r) = (lotsL (r.drop (s.toNat + 1))).map fun x => ((false, r.take (s.toNat + 1)) :: x.1, x.2) := by
  rw [lotsL.eq_def]; dsimp only; rw [if_neg (by lia), if_pos h, if_neg (by lia)]
theorem lotsL_short {s : UInt8} {r : List UInt8} (h : s.toNat < 128) (h2 : r.length ≤ s.toNat) : lotsL (s :: r) = none := by
  rw [lotsL.eq_def]; dsimp only; rw [if_neg (by lia), if_pos h, if_pos h2]
theorem lotsL_run {s c : UInt8} {r : List UInt8} (h : 128 < s.toNat) : lotsL (s :: c :: r) = (lotsL r).map fun x => ((true, List.replicate (257 - s.toNat) c) :: x.1, x.2) := by
  rw [lotsL.eq_def]; dsimp only; rw [if_neg (by lia), if_neg (by lia)]
theorem lotsL_bare {s : UInt8} (h : 128 < s.toNat) : lotsL [s] = none := by
  rw [lotsL.eq_def]; dsimp only; rw [if_neg (by lia), if_neg (by lia)]
end
section
theorem picked_nat {b : Array UInt8} {i j : Int} (h0 : 0 ≤ i) (h1 : i ≤ j) : KBy.picked b (some i) (some j) = ((b.toList.drop i.toNat).take (j.toNat - i.toNat)).toArray := by
  obtain ⟨l, rfl⟩ := Int.eq_ofNat_of_zero_le h0
  obtain ⟨h, rfl⟩ := Int.eq_ofNat_of_zero_le (Int.le_trans h0 h1)
  have a1 : l ≤ h := by lia
  have a3 : b.size = b.toList.length := by simp
  rw [KBc.picked_eq]
  simp only [Option.elim, clipAt_nat, Int.toNat_natCast]
  rw [a3]
  congr 1
  rcases Nat.le_total l b.toList.length with q | q
  · rw [Nat.min_eq_left q]
    rcases Nat.le_total h b.toList.length with q2 | q2
    · rw [Nat.min_eq_left q2]
    · rw [Nat.min_eq_right q2, List.take_of_length_le (by simp), List.take_of_length_le (by simp; simp at q2; lia)]
  · rw [Nat.min_eq_right q, List.drop_eq_nil_of_le (Nat.le_refl _), List.drop_eq_nil_of_le q]
    simp
theorem size_win {b : Array UInt8} {i j : Int} (h0 : 0 ≤ i) (h : j = i + 1) : (KBy.picked b (some i) (some j)).size ≤ 1 := by
  subst h
  rw [picked_nat h0 (by lia)]
  simp only [List.size_toArray, List.length_take]
  lia
section
variable {b : Array UInt8} {ls : List Lot} {at_ : Int} {c : UInt8}
theorem lots_mark (hl : lotsL b.toList = (lotsL (b.toList.drop at_.toNat)).map (fun x => (ls ++ x.1, x.2))) (hc : b[at_.toNat]? = some c) (h : c.toNat = 128) :
    lotsL b.toList = some (ls, some (b.toList.drop (at_.toNat + 1))) := by
  rw [hl, drop_at hc, lotsL_mark h]
  simp
theorem lots_end (hl : lotsL b.toList = (lotsL (b.toList.drop at_.toNat)).map (fun x => (ls ++ x.1, x.2))) (h0 : 0 ≤ at_) (h : ¬ at_ < b.size) : lotsL b.toList = some (ls, none) := by
  rw [hl, List.drop_eq_nil_of_le (by simp; lia), lotsL_nil]
  simp
theorem lots_short (hl : lotsL b.toList = (lotsL (b.toList.drop at_.toNat)).map (fun x => (ls ++ x.1, x.2))) (hc : b[at_.toNat]? = some c) (h : c.toNat < 128) (h0 : 0 ≤ at_)
    (hp : (KBy.picked b (some (at_ + 1)) (some (at_ + 2 + (c.toNat : Int)))).size ≤ c.toNat) : lotsL b.toList = none := by
  rw [picked_nat (by lia) (by lia)] at hp
  simp only [List.size_toArray, List.length_take, List.length_drop, Array.length_toList] at hp
  rw [hl, drop_at hc, lotsL_short h (by simp only [List.length_drop, Array.length_toList]; lia)]
  rfl
theorem lots_bare (hl : lotsL b.toList = (lotsL (b.toList.drop at_.toNat)).map (fun x => (ls ++ x.1, x.2))) (hc : b[at_.toNat]? = some c) (h : 128 < c.toNat) (h0 : 0 ≤ at_) (hp : at_ + 1 = b.size) : lotsL b.toList = none := by
  rw [hl, drop_at hc, List.drop_eq_nil_of_le (by simp only [Array.length_toList]; lia), lotsL_bare h]
  rfl
theorem lots_plain {p : Array UInt8} (hl : lotsL b.toList = (lotsL (b.toList.drop at_.toNat)).map (fun x => (ls ++ x.1, x.2))) (hc : b[at_.toNat]? = some c) (h : c.toNat < 128) (h0 : 0 ≤ at_)
    (q : p = KBy.picked b (some (at_ + 1)) (some (at_ + 2 + (c.toNat : Int)))) (hp : ¬ p.size ≤ c.toNat) :
    at_ + 2 + (c.toNat : Int) ≤ b.size ∧ lotsL b.toList = (lotsL (b.toList.drop (at_ + 2 + (c.toNat : Int)).toNat)).map (fun x => ((ls ++ [(false, p.toList)]) ++ x.1, x.2)) := by
  subst q
  rw [picked_nat (by lia) (by lia)] at hp ⊢
  simp only [List.size_toArray, List.length_take, List.length_drop, Array.length_toList] at hp
  refine ⟨by lia, ?_⟩
  rw [hl, drop_at hc, lotsL_plain h (by simp only [List.length_drop, Array.length_toList]; lia), List.drop_drop]
  rw [show at_.toNat + 1 + (c.toNat + 1) = (at_ + 2 + (c.toNat : Int)).toNat from by lia, show (at_ + 2 + (c.toNat : Int)).toNat - (at_ + 1).toNat = c.toNat + 1 from by lia, show (at_ + 1).toNat = at_.toNat + 1 from by lia]
  cases lotsL (List.drop (at_ + 2 + (c.toNat : Int)).toNat b.toList) <;> simp
theorem lots_run {p : Array UInt8} (hl : lotsL b.toList = (lotsL (b.toList.drop at_.toNat)).map (fun x => (ls ++ x.1, x.2))) (hc : b[at_.toNat]? = some c) (h : 128 < c.toNat) (h0 : 0 ≤ at_)
    (q : p = KBy.picked b (some (at_ + 1)) (some (at_ + 2))) (hp : at_ + 1 ≠ b.size) (hlt : at_ < b.size) :
    at_ + 2 ≤ b.size ∧ lotsL b.toList = (lotsL (b.toList.drop (at_ + 2).toNat)).map (fun x => ((ls ++ [(true, (rep p (257 - (c.toNat : Int))).toList)]) ++ x.1, x.2)) := by
  subst q
  refine ⟨by lia, ?_⟩
  obtain ⟨c2, hc2⟩ : ∃ c2, b[at_.toNat + 1]? = some c2 := ⟨b[at_.toNat + 1]'(by lia), Array.getElem?_eq_getElem (by lia)⟩
  have e1 := drop_at hc2
  rw [picked_nat (by lia) (by lia), hl, drop_at hc, e1, lotsL_run h]
  have e2 : (257 - (c.toNat : Int)).toNat = 257 - c.toNat := by have := c.toNat_lt; lia
  rw [show (at_ + 2).toNat = at_.toNat + 1 + 1 from by lia, show at_.toNat + 1 + 1 - (at_ + 1).toNat = 1 from by lia, show (at_ + 1).toNat = at_.toNat + 1 from by lia, e1]
  have e3 : (rep (List.take 1 (c2 :: List.drop (at_.toNat + 1 + 1) b.toList)).toArray (257 - (c.toNat : Int))).toList = List.replicate (257 - c.toNat) c2 := by
    simp [rep, e2]
  rw [e3]
  cases lotsL (List.drop (at_.toNat + 1 + 1) b.toList) <;> simp
end
end
local macro_rules | `(tactic| walk_at "binaryOp Mult bytes int") => `(tactic| (k_here; (with_reducible show wpAny _ _ (binaryOp Operator.Mult (Value.bytes _ _) (Value.int _ _)) _ _ _); k_dflt (refine' bytes_rep ?a ?b ?c ?_; (case a => walk_at "om"); (case b => walk_at "om"); (case c => first | walk_at "szR" | ((rename _ = KBy.picked _ _ _ => q99); rw [q99]; exact size_win (by walk_at "om") (by walk_at "om")))); intro _ _))
section
theorem begins_L5 : True := by
  w_top off
  exact trivial
theorem item_bytes {prog : Program} {w : World} {A : Around} {E : Value → Shared → Prop} {s : Shared} {value slice : PySem.Expr} {b : Array UInt8} {t ui : Tok} {i : Int} {Q : Value → Shared → Prop} (hb : b.size ≤ 1000000) (h0 : 0 ≤ i) (h1 : i < (b.size : Int))
    (h : ∀ (c : UInt8) u k, b[i.toNat]? = some c → (c.toNat : Int) < 256 → Q (.int (c.toNat : Int) u) { s with toks := k })
    (hs : subscripted slice false (.bytes b t) (.int i ui) = operate [.bytes b t, .int i ui] (getItem (.bytes b t) (.int i ui)) := by with_unfolding_all rfl)
    (ht : ∀ r, letTemporaryGo value (.bytes b t) r = pure () := by intro _; with_unfolding_all rfl) :
    wpAny (model prog w) A (subscriptTail value slice (.bytes b t) (.int i ui)) Q E s := by
  obtain ⟨x⟩ := b
  have hl : (Array.mk x).size = x.length := rfl
  rw [hl] at hb h1
  have hx : x[i.toNat]? = some (x.getD i.toNat 0) := by
    rw [List.getD_eq_getElem?_getD, List.getElem?_eq_getElem (by lia)]; rfl
  refine KBy.item_N (x := x) (by lia) h0 h1 (h (x.getD i.toNat 0) _ _ (by simpa using hx) (by have := (x.getD i.toNat 0).toNat_lt; lia)) hs ht
local macro_rules | `(tactic| walk_at "subscriptTail") => `(tactic| (k_here; (with_reducible show wpAny _ _ (subscriptTail _ _ (Value.bytes _ _) (Value.int _ _)) _ _ _); k_dflt (refine' item_bytes ?a ?b ?c ?_ ?s ?g; (case s => with_unfolding_all rfl); (case g => (intro _; with_unfolding_all rfl)); (case a => walk_at "om"); (case b => walk_at "om"); (case c => walk_at "om")); intro c9 u9 k9 hc9 hl9))
theorem append_KL {prog : Program} {w : World} {A : Around} {E : Value → Shared → Prop} {s : Shared} {h₀ : Heap} {L D : Addr} {m : Str → Option Value} {news news' : List (Addr × Obj)} {vs : List Value} {n : Nat} {x : Value} {Q : Value → Shared → Prop} (F : Fr h₀ L s.heap m) (N : News h₀ L s.heap news)
    (U : Upd D (W.listOf vs.toArray n) (W.listOf (vs ++ [x]).toArray (n + 1)) news news') (h : ∀ h', Fr h₀ L h' m → News h₀ L h' news' → Q .none { s with heap := h' }) (hsz : vs.length ≤ 16777216) : wpAny (model prog w) A (call (.builtin "list.append") [.ref D, x]) Q E s := by
  rw [← List.push_toArray] at U
  exact append_K F N U h (by rw [List.size_toArray, sizeLine_eq]; exact hsz)
local macro_rules | `(tactic| walk_at "call builtin:list.append") => `(tactic| (k_here; (with_reducible show wpAny _ _ (call (Value.builtin _) [Value.ref _, _]) _ _ _); k_dflt (refine' append_KL ?k1 ?k2 ?k3 ?_ ?z; (case k1 => k_asm); (case k2 => k_asm); (case k3 => k_upd); (case z => walk_at "om")); intro h' F' N'; (try k_sweep)))
/-- the lots as objects -/
def LotObjs (ls : List Lot) (vs : List Value) (os : List (Addr × Obj)) : Prop :=
  vs.length = ls.length ∧ ∀ (i : Nat) r p, ls[i]? = some (r, p) → ∃ a t, vs[i]? = some (.ref a) ∧ (a, tupOf [.bool r, .bytes p.toArray t]) ∈ os
def LotsAt (v : Value) (L : List UInt8) (l' : List (Addr × Obj)) : Prop :=
  (lotsL L = none ∧ v = .none ∧ l' = []) ∨
  ∃ ls r T f vs cap os x, lotsL L = some (ls, r) ∧ v = .ref T ∧ l' = (T, tupOf [.ref f, x]) :: (f, W.listOf vs.toArray cap) :: os ∧ LotObjs ls vs os ∧
    ((r = none ∧ x = .none) ∨ ∃ r' t, r = some r' ∧ x = .int ((L.length : Int) - r'.length) t)
theorem LotObjs.snoc {ls : List Lot} {vs : List Value} {os : List (Addr × Obj)} {r : Bool} {p : List UInt8} {a : Addr} {t : Tok} (h : LotObjs ls vs os) : LotObjs (ls ++ [(r, p)]) (vs ++ [.ref a]) ((a, tupOf [.bool r, .bytes p.toArray t]) :: os) := by
  refine ⟨by simp [h.1], fun i r' p' hi => ?_⟩
  rcases Nat.lt_trichotomy i ls.length with q | q | q
  · rw [List.getElem?_append_left q] at hi
    obtain ⟨a', t', h1, h2⟩ := h.2 i r' p' hi
    exact ⟨a', t', by rw [List.getElem?_append_left (by rw [h.1]; exact q)]; exact h1, .tail _ h2⟩
  · subst q
    rw [List.getElem?_append_right (Nat.le_refl _), Nat.sub_self] at hi
    cases hi
    exact ⟨a, t, by rw [← h.1, List.getElem?_append_right (Nat.le_refl _), Nat.sub_self]; rfl, .head _⟩
  · rw [List.getElem?_eq_none (by simp; lia)] at hi
    cases hi
theorem int_eq {a b : Int} {t : Tok} (e : a = b) : Value.int a t = Value.int b t := by rw [e]
theorem off_tail {D f : Addr} {o : Obj} {l : List (Addr × Obj)} (h1 : f < D) (h2 : AllLt D l) : ∀ p ∈ (f, o) :: l, p.1 ≠ D := by
  intro p hp
  rcases List.mem_cons.mp hp with rfl | hp
  · exact Nat.ne_of_lt h1
  · exact allLt_ne h2 p hp
theorem lots (w : World) {b : Array UInt8} {tb : Tok} (hb : b.size ≤ 100000) : Ctr w 10 232 [.bytes b tb] [] (fun v l' => LotsAt v b.toList l') := by
  intro A A₀ base h₀ outer L m mg mb env p loose mean rest s R B F X₀ LD T hA hf hke hh hd hu ret
  obtain ⟨N, nd⟩ := LD
  simp only [List.nil_append] at N nd
  revert X₀; k_fill; intro X₀
  refine' def_C (binds := [(Str.ofString "octets", .bytes b tb)]) B F X₀ N T hA hf hke ?k6 ?k7 ?k8 ?k9 ?kB ?_ ?c2 ?c3 ?c4 ?c5
  (( (case k6 => k_is); (case k7 => k_is); (case k8 => walk_at "om"); (case k9 => first | exact BindsTo.of_eq rfl | exact binds_K (by k_in) rfl (by k_is) rfl rfl rfl | fail "enter: no rule for these arguments"); (case c5 => decide); (case kB => exact locs rfl); (case c2 => exact rfl); (case c3 => exact rfl); (case c4 => exact rfl)))
  intro g' L' h' FG' F' N' B' X' T' l1
  clear F N FG'
  (repeat' (first | (k_unfold; (try dsimp only)) | (first | (with_reducible first | ((show (_ : Flow → Shared → Prop) _ _); rename Flow → Shared → Prop => K9; rename KR K9 _ => kr9; rename KN K9 _ => kn9; (first | refine kn9 _ ?_ | refine kr9.ret _ _ ?_ | refine kr9.brk _ ?_ | refine kr9.cont _ ?_); clear kn9 kr9 K9; (try dsimp only)) | ((show (_ : Flow → Shared → Prop) _ _); (first | refine kn_go (by assumption) ?_ | refine kr_go (by assumption) ?_); (try dsimp only)) | ((show (_ : Bool → Shared → Prop) _ _); rename Bool → Shared → Prop => K9; rename KT K9 _ => kb9; refine kb9 _ _ ?_; clear kb9 K9; (try dsimp only)))) | ((with_reducible show wpC _ _ _ _ _ _); (first | ((with_reducible show wpC _ _ (exec (Stmt.While _ _ _ _) _) _ _ _); (refine exec_While_stop ?_)) | (((with_reducible show wpC _ _ (execs (_ :: _) _) _ _ _); refine execs_cons_G ?_; intro _ _ _)) | (((with_reducible show wpC _ _ (exec _ _) _ _ _); refine wpC_any ?_)))) | (dsimp only; (with_reducible show wpC _ _ _ _ _ _)) | ((fail_if_success (with_reducible show wpC _ _ _ _ _ _)); (first | walk1 | (dsimp only; walk1)))))
  rename_i f0 ha la D0 hb9 ld hc9 hd9 he9 F1 N1 _ _ _
  unfold StopW
  refine exec_While_C (m := _) (news := (f0, W.listOf ([] : List Value).toArray 0) :: rest) (n := b.size) (fun k m₁ nw => ∃ f vs cap os ls at_ t, m₁ (Str.ofString "octets") = some (.bytes b tb) ∧ m₁ (Str.ofString "found") = some (.ref f) ∧ m₁ (Str.ofString "at") = some (.int at_ t) ∧
      nw = (f, W.listOf vs.toArray cap) :: (os ++ rest) ∧ LotObjs ls vs os ∧ (vs.length : Int) ≤ at_ ∧ (k : Int) + at_ = b.size ∧ lotsL b.toList = (lotsL (b.toList.drop at_.toNat)).map (fun x => (ls ++ x.1, x.2)))
    F1 (fun y hy => N1 y (.tail _ hy)) (nodup_push (fun p hp => Nat.ne_of_lt (la p hp)) nd) ⟨f0, [], 0, [], [], 0, _, rfl, rfl, rfl, rfl, ⟨rfl, fun i r p h => by cases h⟩, Int.le_refl _, by lia, ?hz⟩ ?step
  case hz => cases h : lotsL b.toList <;> simp [h]
  case step =>
    rintro k m₁ nw h tk ⟨f, vs, cap, os, ls, at_, t, hm1, hm2, hm3, rfl, hlo, hal, hk, hl⟩ F5 N5 nd5
    have ha0 : 0 ≤ at_ := by lia
    have o5 : OwnOff (os ++ rest) [f] := ownOff_of (l := [(f, W.listOf vs.toArray cap)]) nd5
    (repeat' (first | (k_unfold; (try dsimp only)) | (first | (with_reducible first | ((show (_ : Flow → Shared → Prop) _ _); rename Flow → Shared → Prop => K9; rename KR K9 _ => kr9; rename KN K9 _ => kn9; (first | refine kn9 _ ?_ | refine kr9.ret _ _ ?_ | refine kr9.brk _ ?_ | refine kr9.cont _ ?_); clear kn9 kr9 K9; (try dsimp only)) | ((show (_ : Flow → Shared → Prop) _ _); (first | refine kn_go (by assumption) ?_ | refine kr_go (by assumption) ?_); (try dsimp only)) | ((show (_ : Bool → Shared → Prop) _ _); rename Bool → Shared → Prop => K9; rename KT K9 _ => kb9; refine kb9 _ _ ?_; clear kb9 K9; (try dsimp only)))) | ((with_reducible show wpC _ _ _ _ _ _); (first | (((with_reducible show wpC _ _ (call (Value.builtin "list.append") _ _) _ _ _); (try dsimp only [List.nil_append, List.cons_append]); refine wpC_any ?_)) | (((with_reducible show wpC _ _ (callWith _ (Value.builtin _) _ (backTo _ (starEach (_ :: _) _)) _) _ _ _); refine callWith_CBC ?_)) | (((with_reducible show wpC _ _ (exec (Stmt.Assign [Expr.Name _ _] (Expr.Subscript _ _ _) _) _) _ _ _); refine exec_AssignName_C ?_)) | (((with_reducible show wpC _ _ (exec (Stmt.Return (some (Expr.Tuple _ _ _)) _) _) _ _ _); refine exec_Return_C ?_)) | (((with_reducible show wpC _ _ (eval (Expr.Tuple _ _ _) _) _ _ _); refine eval_Tuple_C ?_)) | (((with_reducible show wpC _ _ (eval (Expr.BinOp _ _ _ _) _) _ _ _); refine eval_BinOp_C ?_)) | (((with_reducible show wpC _ _ (eval (Expr.Subscript _ _ _) _) _ _ _); refine eval_Subscript_C ?_)) | (((with_reducible show wpC _ _ (eval (Expr.Name _ _) _) _ _ _); refine wpC_any ?_)) | (((with_reducible show wpC _ _ (eval (Expr.Constant _ _ _) _) _ _ _); refine wpC_any ?_)) | (((with_reducible show wpC _ _ (ite (false = true) _ _) _ _ _); refine wpC_ite_f Bool.false_ne_true ?_)) | (((with_reducible show wpC _ _ (spliced _) _ _ _); show wpC _ _ (spliced ((false, _) :: _)) _ _ _; refine spliced_cons_C ?_)) | (((with_reducible show wpC _ _ (spliced _) _ _ _); show wpC _ _ (spliced []) _ _ _; refine spliced_nil_C ?_)) | (((with_reducible show wpC _ _ (execs (_ :: _) _) _ _ _); refine execs_cons_G ?_; intro _ _ _)) | (((with_reducible show wpC _ _ (execs [] _) _ _ _); refine execs_nil_C ?_)) | (((with_reducible show wpC _ _ (exec (Stmt.If _ _ _ _) _) _ _ _); refine exec_If_G ?_; intro _ _)) | (((with_reducible show wpC _ _ (exec (Stmt.Expr _ _) _) _ _ _); refine exec_Expr_C ?_)) | (((with_reducible show wpC _ _ (exec _ _) _ _ _); refine wpC_any ?_)) | (((with_reducible show wpC _ _ (eval (Expr.Call (Expr.Attribute _ _ _) _ _ _) _) _ _ _); refine eval_CallMeth_C ?_)))) | (dsimp only; (with_reducible show wpC _ _ _ _ _ _)) | ((fail_if_success (with_reducible show wpC _ _ _ _ _ _)); (first | walk1 | (dsimp only; walk1)))))
    · -- the mark of the end
      rename _ = some _ => hc
      rename News _ _ _ _ => N8
      rename Fr _ _ _ _ => F8
      rename_i h128 D9 h9 F9 N9 y9 T9 X9
      have hl1 := lots_mark hl hc (by lia)
      refine ret (.ref D9) _ _ ((D9, tupOf [.ref f, _]) :: (f, W.listOf vs.toArray cap) :: os) F8 N8 (nodup_push (off_tail y9.1 y9.2) nd5) (.inr ⟨ls, _, D9, f, vs, cap, os, _, hl1, rfl, rfl, hlo, .inr ⟨_, _, rfl, int_eq ?pe⟩⟩)
      simp only [List.length_drop, Array.length_toList]
      lia
    · -- cut short
      rename _ = some _ => hc
      rename News _ _ _ _ => N8
      rename Fr _ _ _ _ => F8
      rename _ = KBy.picked _ _ _ => q9
      subst q9
      exact ret .none _ _ [] F8 (news_sub N8 (fun p hp => .tail _ (.tail _ (List.mem_append_right _ hp)))) (nodup_rest (l := (f, W.listOf vs.toArray cap) :: os) nd5) (.inl ⟨lots_short hl hc (by lia) ha0 (by lia), rfl, rfl⟩)
    · -- a plain lot
      rename _ = some _ => hc
      rename _ = KBy.picked _ _ _ => q9
      rename News _ _ _ _ => N8
      rename Fr _ _ _ _ => F8
      show WTurn _ _ _ _ _ _
      rename_i hlt c9 u9 k9 hc9 h5 hn1 hn2 h4 t4 k4 p4 z4 D9 h3 y9 h2 hs9 h1 h0
      obtain ⟨z1, z2⟩ := lots_plain hl hc (by lia) ha0 q9 (by lia)
      exact ⟨_, _, _, _, k - (2 + c9.toNat), by lia, rfl, F8, news_swap N8, nodup_perm (List.Perm.swap _ _ _) (nodup_push (off_tail y9.1 y9.2) nd5), f, vs ++ [.ref D9], cap + 1, (D9, tupOf [.bool false, .bytes p4 t4]) :: os, ls ++ [(false, p4.toList)], _, _, hm1, hm2, rfl, rfl, hlo.snoc (p := p4.toList), by simp only [List.length_append, List.length_singleton]; lia, by lia, z2⟩
    · -- a run without its octet
      rename _ = some _ => hc
      rename News _ _ _ _ => N8
      rename Fr _ _ _ _ => F8
      exact ret .none _ _ [] F8 (news_sub N8 (fun p hp => .tail _ (.tail _ (List.mem_append_right _ hp)))) (nodup_rest (l := (f, W.listOf vs.toArray cap) :: os) nd5) (.inl ⟨lots_bare hl hc (by lia) ha0 (by lia), rfl, rfl⟩)
    · -- a run
      rename _ = some _ => hc
      rename _ = KBy.picked _ _ _ => q9
      rename News _ _ _ _ => N8
      rename Fr _ _ _ _ => F8
      show WTurn _ _ _ _ _ _
      rename_i hlt c9 u9 k9 hc9 h5 hn1 hn2 h4 t4 k4 p4 z4 t6 k6 D9 h3 y9 h2 hs9 h1 h0
      obtain ⟨z1, z2⟩ := lots_run hl hc (by lia) ha0 q9 hs9 hlt
      exact ⟨_, _, _, _, k - 2, by lia, rfl, F8, news_swap N8, nodup_perm (List.Perm.swap _ _ _) (nodup_push (off_tail y9.1 y9.2) nd5), f, vs ++ [.ref D9], cap + 1, (D9, tupOf [.bool true, .bytes (rep p4 (257 - (c9.toNat : Int))) t6]) :: os, ls ++ [(true, (rep p4 (257 - (c9.toNat : Int))).toList)], _, _, hm1, hm2, rfl, rfl, hlo.snoc (p := (rep p4 (257 - (c9.toNat : Int))).toList), by simp only [List.length_append, List.length_singleton]; lia, by lia, z2⟩
    · -- the end
      rename News _ _ _ _ => N8
      rename Fr _ _ _ _ => F8
      rename_i hlt D9 h9 F9 N9 y9 T9 X9
      have hl1 := lots_end hl ha0 hlt
      exact ret (.ref D9) _ _ ((D9, tupOf [.ref f, .none]) :: (f, W.listOf vs.toArray cap) :: os) F8 N8 (nodup_push (off_tail y9.1 y9.2) nd5) (.inr ⟨ls, none, D9, f, vs, cap, os, .none, hl1, rfl, rfl, hlo, .inl ⟨rfl, rfl⟩⟩)
end
section
open Sem (wp)
open PyProof.Rows.LCg (NsObj lst ns_obj CompEnd Off3 Off1 SrcAt FinA)
open PyProof.Rows.LCt (CompRestT CompSrcT)
section
variable {prog : Program} {w : World} {A : Around} {E : Value → Shared → Prop} {s : Shared} {env : Env} {h₀ : Heap} {L : Addr} {m : Str → Option Value} {news : List (Addr × Obj)} {ct elt iter : Expr} {x : Str} {px : Pos} {scope : Scope} {cl : List (Str × Addr)} {pos : Pos}
/-- the end of an element that a test lets by or not -/
def EltEndT (h₀ : Heap) (L : Addr) (m : Str → Option Value) (s : Shared) (I : Addr) (oI : Obj) (C : Addr) (oC : Obj) (D : Addr) (oD : Obj) (news : List (Addr × Obj)) (G : Prop) (s' : Shared) : Prop :=
  (∃ h' tk', s' = { s with heap := h', toks := tk' } ∧ Fr h₀ L h' m ∧ News h₀ L h' ((I, oI) :: (C, oC) :: (D, oD) :: news)) ∧ G
theorem compRestT_J {S : List (Addr × Obj) → Prop} {P : Nat → Value → Prop} {Fin : List Value → List (Addr × Obj) → Prop} {n : Nat} (nw : List (Addr × Obj)) (J : Nat → List Value → Prop) (hS : S nw)
    (step : ∀ i v ys I oI C oC D m₂ h tk (E' : Value → Shared → Prop), i < n → P i v → J i ys → NsObj oC m₂ → m₂ x = some v → Fr h₀ L h m → News h₀ L h ((I, oI) :: (C, oC) :: (D, lst ys) :: nw) → Off3 I C D nw →
      wpAny (model prog w) A (isTrue ct (compEnvC scope cl C env) (eval ct (compEnvC scope cl C env))) (fun ok s' => if ok = true then
        wpAny (model prog w) A (eval elt (compEnvC scope cl C env)) (fun y s'' => EltEndT h₀ L m s I oI C oC D (lst ys) nw (J (i + 1) (ys ++ [y])) s'') E' s'
        else EltEndT h₀ L m s I oI C oC D (lst ys) nw (J (i + 1) ys) s') E' { s with heap := h, toks := tk })
    (fin : ∀ ys, J n ys → Fin ys nw) : ∀ k i ys, k + i = n → J i ys → CompRestT prog w A h₀ L m env ct elt x scope cl s S P Fin k i ys nw
  | 0, i, ys, e, hJ => fin ys (by have : i = n := by lia
                                  rw [← this]; exact hJ)
  | k + 1, i, ys, e, hJ => by
    intro v I oI C oC D m₂ h tk E' hP hC hx F N off ne
    refine wpAny_mono (step i v ys I oI C oC D m₂ h tk E' (by lia) hP hJ hC hx F N off) (fun ok s' h' => ?_) fun _ _ e => e
    cases ok with
    | true =>
      rw [if_pos rfl] at h' ⊢
      refine wpAny_mono h' (fun y s₂ h₂ => ?_) fun _ _ e => e
      obtain ⟨⟨h₃, tk₃, rfl, F₃, N₃⟩, hJ'⟩ := h₂
      exact ⟨h₃, tk₃, nw, rfl, F₃, N₃, off, hS, compRestT_J nw J hS step fin k (i + 1) _ (by lia) hJ'⟩
    | false =>
      rw [if_neg Bool.false_ne_true] at h' ⊢
      obtain ⟨⟨h₃, tk₃, rfl, F₃, N₃⟩, hJ'⟩ := h'
      exact ⟨h₃, tk₃, nw, rfl, F₃, N₃, off, hS, compRestT_J nw J hS step fin k (i + 1) _ (by lia) hJ'⟩
def MySrcT (prog : Program) (w : World) (A : Around) (h₀ : Heap) (L : Addr) (m : Str → Option Value) (env : Env) (ct elt : Expr) (x : Str) (scope : Scope) (cl : List (Str × Addr)) (y : Str) (Q : Flow → Shared → Prop) (xv : Value) (s₁ : Shared) : Prop :=
  CompSrcT prog w A h₀ L m env ct elt x scope cl (fun s₂ => FinA h₀ L m s₂ y Q) xv s₁
theorem assignLCT {y : Str} {py : Pos} {spos : Pos} {Q : Flow → Shared → Prop} (F₀ : Fr h₀ L s.heap m) (hLe : env.locals = L)
    (hsw : swapsWith (.ListComp elt [⟨.Name x px, iter, [ct], 0⟩] scope pos) (some (.Name y py)) spos.line env = pure true)
    (hclos : closureFor scope env = pure cl) (hcell : ∀ z ∈ scope.names, z.2 ≠ .cell) (hkind : scope.kind = .function)
    (hnames : ∀ z ∈ scope.names, z.2 = .local → scope.names.lookup z.1 = some .local) (hx : scope.names.lookup x = some .local)
    (hy : env.kindOf y = some .local) (hp : (env.scope.kind == .class || (env.scope.kind == .module && env.locals != env.globals)) = false)
    (h : wpAny (model prog w) A (eval iter env) (MySrcT prog w A h₀ L m env ct elt x scope cl y Q) E s)
    (hs : ∀ x, foldedSetIterable iter env x = pure x) :
    wpAny (model prog w) A (exec (.Assign [.Name y py] (.ListComp elt [⟨.Name x px, iter, [ct], 0⟩] scope pos) spos) env) Q E s :=
  LCt.Assign_ListComp_T F₀ hLe hsw hclos hcell hkind hnames hx hy hp h hs
end
end
section
def NoThree (p : List UInt8) : Prop := ∀ k c, p[k]? = some c → p[k + 1]? = some c → p[k + 2]? = some c → False
/-- a lot is as the law asks, at this place of the records -/
structure RightAt (rc pl : Int) (l : Lot) : Prop where
  some' : l.2 ≠ []
  within : 0 < rc → pl.fdiv rc = (pl + l.2.length - 1).fdiv rc
  long : l.1 = true → 3 ≤ l.2.length
  plain : l.1 = false → NoThree l.2
def placeAt (ls : List Lot) (i : Nat) : Int := (((ls.take i).map (·.2.length)).sum : Nat)
def Right (rc : Int) (ls : List Lot) : Prop := ∀ (i : Nat) (l : Lot), ls[i]? = some l → RightAt rc (placeAt ls i) l
theorem placeAt_succ {ls : List Lot} {i : Nat} {l : Lot} (h : ls[i]? = some l) : placeAt ls (i + 1) = placeAt ls i + l.2.length := by
  unfold placeAt
  rw [List.take_add_one, h]
  simp
theorem placeAt_le {ls : List Lot} {i : Nat} : placeAt ls i ≤ ((ls.map (·.2.length)).sum : Nat) := by
  unfold placeAt
  have : ls = ls.take i ++ ls.drop i := (List.take_append_drop i ls).symm
  have e : (ls.map (·.2.length)).sum = ((ls.take i).map (·.2.length)).sum + ((ls.drop i).map (·.2.length)).sum := by
    rw [← List.sum_append, ← List.map_append, List.take_append_drop]
  lia
theorem len_le {ls : List Lot} {i : Nat} {l : Lot} (h : ls[i]? = some l) : l.2.length ≤ (ls.map (·.2.length)).sum := by
  have h1 := placeAt_succ h
  have h2 := placeAt_le (ls := ls) (i := i + 1)
  have h3 : 0 ≤ placeAt ls i := by unfold placeAt; lia
  lia
end
local macro_rules | `(tactic| walk_at "assign Tuple") => `(tactic| (k_here; (with_reducible show wpAny _ _ (assign (Expr.Tuple _ _ _) _ (Value.ref _)) _ _ _); k_dflt (refine' unpackN_ ?k1 ?k2 ?k3 ?k4 ?k5 ?k6 ?_; (case k1 => k_asm); (case k2 => k_asm); (case k3 => first | assumption | kun_tup); (case k4 => assumption); (case k5 => exact rfl); (case k6 => exact rfl)); intro h' F' N'; (try k_sweep)))
local macro_rules | `(tactic| walk_at "exec Assign cons ListComp") => `(tactic| (k_here; k_dflt (refine' assignLCT ?F ?c0 ?c1 ?c2 ?c3 ?c4 ?c5 ?c6 ?c7 ?c8 ?_ ?c9; (case F => k_asm); (case c0 => exact rfl); (case c1 => exact rfl); (case c2 => exact rfl); (case c3 => decide); (case c4 => exact rfl); (case c5 => decide); (case c6 => exact rfl); (case c7 => exact rfl); (case c8 => exact rfl); (case c9 => (intro _; exact rfl)))))
section
local macro_rules | `(tactic| walk_at "zz1") => `(tactic| skip)
theorem begins_L6 : True := by
  w_top off
  exact trivial
theorem three_absurd {pp : List UInt8} {j a b c : Nat} (R : NoThree pp) (e1 : ((pp.getD a 0).toNat : Int) = ((pp.getD b 0).toNat : Int)) (e2 : ((pp.getD a 0).toNat : Int) = ((pp.getD c 0).toNat : Int)) (ha : a = j) (hb : b = j + 1) (hc : c = j + 2) (hlt : j + 2 < pp.length) : False := by
  subst ha hb hc
  have g : ∀ k, k < pp.length → pp[k]? = some (pp.getD k 0) := fun k hk => by
    rw [List.getD_eq_getElem?_getD, List.getElem?_eq_getElem hk]; rfl
  have f1 : pp.getD (a + 1) 0 = pp.getD a 0 := UInt8.toNat_inj.mp (by lia)
  have f2 : pp.getD (a + 2) 0 = pp.getD a 0 := UInt8.toNat_inj.mp (by lia)
  exact R a (pp.getD a 0) (g a (by lia)) (f1 ▸ g (a + 1) (by lia)) (f2 ▸ g (a + 2) hlt)
theorem tupGo {prog : Program} {w : World} {A : Around} {elts : List PySem.Expr} {x1 : Nat} {pos : Pos} {l : Addr} : ∀ I i v (s' : Shared) (Q : Unit → Shared → Prop), s'.heap.IsListIter I l i → Q () s' → wpAny (model prog w) A (letOwnedTupleGo (.Tuple elts x1 pos) (.ref I) v) Q (fun _ _ => False) s' := by
  intro I i v s' Q hit q
  cases v <;> first | exact wpAny_letOwnedTupleGo_listiter hit q | exact wpAny_pure q
theorem right (w : World) {f : Addr} {tr : Tok} {vs : List Value} {cap : Nat} {os : List (Addr × Obj)} {ls : List Lot} {rc : Int} (hlo : LotObjs ls vs os) (hR : Right rc ls) (hr0 : 0 ≤ rc) (hr1 : rc ≤ 100) (hz : (ls.map (·.2.length)).sum ≤ 100000) (hzl : ls.length ≤ 100000) :
    Ctr w 20 237 [.ref f, .int rc tr] ((f, W.listOf vs.toArray cap) :: os) (fun v l' => v = .bool true ∧ l' = (f, W.listOf vs.toArray cap) :: os) := by
  intro A A₀ base h₀ outer L m mg mb env p loose mean rest s R B F X₀ LD T hA hf hke hh hd hu ret
  obtain ⟨N, nd⟩ := LD
  simp only [List.cons_append] at N nd
  revert X₀; k_fill; intro X₀
  refine' def_Cells (binds := [(Str.ofString "lots", .ref f), (Str.ofString "record", .int rc tr)]) B F X₀ N T hA hf hke ?k6 ?k7 ?k8 ?k9 ?kB ?kC ?_ ?c2 ?c3 ?c4
  case k6 => k_is
  case k7 => k_is
  case k8 => lia
  case k9 => first | exact BindsTo.of_eq rfl | exact binds_K (by k_in) rfl (by k_is) rfl rfl rfl
  case kB => exact fun n => kinds_of ⟨.inl rfl, .inl rfl, trivial⟩
  case kC => decide
  case c2 => exact rfl
  case c3 => exact rfl
  case c4 => exact rfl
  intro g' L' h' tk0 cells FG' F' N' Y B' X' T' l1
  obtain ⟨q1, rfl, hq1⟩ := CellsAre.one Y
  clear F N FG'
  replace hq1 : q1.data = .cell none := hq1
  replace F' : Fr g' L' h' (fun y => if y = Str.ofString "record" then some (.int rc tr) else if y = Str.ofString "lots" then some (.ref f) else none) := F'
  replace N' : News g' L' h' ((L' + 1, q1) :: (f, W.listOf vs.toArray cap) :: (os ++ rest)) := N'
  have nd9 : (((L' + 1, q1) :: (f, W.listOf vs.toArray cap) :: (os ++ rest)).map (·.1)).Nodup := nodup_push (fun p hp => Nat.ne_of_lt (Nat.lt_succ_of_lt (l1 p hp))) nd
  clear Y
  (repeat' (first | (k_unfold; (try dsimp only)) | (first | (with_reducible first | ((show (_ : Flow → Shared → Prop) _ _); rename Flow → Shared → Prop => K9; rename KR K9 _ => kr9; rename KN K9 _ => kn9; (first | refine kn9 _ ?_ | refine kr9.ret _ _ ?_ | refine kr9.brk _ ?_ | refine kr9.cont _ ?_); clear kn9 kr9 K9; (try dsimp only)) | ((show (_ : Flow → Shared → Prop) _ _); (first | refine kn_go (by assumption) ?_ | refine kr_go (by assumption) ?_); (try dsimp only)) | ((show (_ : Bool → Shared → Prop) _ _); rename Bool → Shared → Prop => K9; rename KT K9 _ => kb9; refine kb9 _ _ ?_; clear kb9 K9; (try dsimp only)))) | ((with_reducible show wpC _ _ _ _ _ _); (first | ((with_reducible show wpC _ _ (exec (Stmt.For _ _ _ _ _) _) _ _ _); (refine exec_For_G ?_)) | (((with_reducible show wpC _ _ (eval (Expr.Name _ _) _) _ _ _); refine wpC_any ?_)) | (((with_reducible show wpC _ _ (execs (_ :: _) _) _ _ _); refine execs_cons_G ?_; intro _ _ _)) | (((with_reducible show wpC _ _ (exec _ _) _ _ _); refine wpC_any ?_)))) | (dsimp only; (with_reducible show wpC _ _ _ _ _ _)) | ((fail_if_success (with_reducible show wpC _ _ _ _ _ _)); (first | walk1 | (dsimp only; walk1)))))
  rename_i h1 F1 N1 _ _ _
  refine for_list_C (m := _) (news := (L' + 1, q1) :: (f, W.listOf vs.toArray cap) :: (os ++ rest)) (its := vs.toArray) (fun i m₁ nw => m₁ (Str.ofString "record") = some (.int rc tr) ∧ (∃ t, m₁ (Str.ofString "place") = some (.int (placeAt ls i) t)) ∧ ∃ q v0, q.data = .cell v0 ∧ nw = (L' + 1, q) :: (f, W.listOf vs.toArray cap) :: (os ++ rest))
    hh tupGo F1 N1 nd9 (fun i mm nw hj => by obtain ⟨_, _, q, v0, _, rfl⟩ := hj; exact .inr ⟨_, .tail _ (.head _), rfl, _, rfl⟩) ⟨rfl, ⟨_, rfl⟩, q1, _, hq1, rfl⟩ ?step ?done
  case step =>
    rintro i v I m₁ nw h tk oI hi hv ⟨hm1, ⟨tp, hm2⟩, q, v0, hq, rfl⟩ F5 N5 nd5
    have hi2 : i < ls.length := by rw [← hlo.1]; simpa using hi
    obtain ⟨r, pp⟩ : Lot := ls[i]
    have hl9 : ls[i]? = some ls[i] := List.getElem?_eq_getElem hi2
    revert hl9
    generalize ls[i] = l9
    intro hl9
    obtain ⟨r, pp⟩ := l9
    obtain ⟨a, ta, hv1, hv2⟩ := hlo.2 i r pp hl9
    obtain rfl : v = .ref a := Option.some.inj (hv.symm.trans (by simpa using hv1))
    obtain ⟨R1, R2, R3, R4⟩ := hR i _ hl9
    have hz1 := len_le hl9
    have hz2 := placeAt_le (ls := ls) (i := i)
    have hz3 : 0 ≤ placeAt ls i := by unfold placeAt; lia
    dsimp only at R1 R2 R3 R4 hz1
    have ht : IsTup h a #[.bool r, .bytes pp.toArray ta] := News.isTup N5 (.tail _ (.tail _ (.tail _ (List.mem_append_left _ hv2))))
    have o6 : OwnOff (os ++ rest) [I, L' + 1, f] := ownOff_of (l := [(I, oI), (L' + 1, q), (f, W.listOf vs.toArray cap)]) nd5
    obtain ⟨w1, w2, w3⟩ := ne3 (nodup_own (l := [(I, oI), (L' + 1, q), (f, W.listOf vs.toArray cap)]) nd5)
    dsimp only at w1 w2 w3
    cases r
    all_goals (repeat' (first | (k_unfold; (try dsimp only)) | (first | (with_reducible first | ((show (_ : Flow → Shared → Prop) _ _); rename Flow → Shared → Prop => K9; rename KR K9 _ => kr9; rename KN K9 _ => kn9; (first | refine kn9 _ ?_ | refine kr9.ret _ _ ?_ | refine kr9.brk _ ?_ | refine kr9.cont _ ?_); clear kn9 kr9 K9; (try dsimp only)) | ((show (_ : Flow → Shared → Prop) _ _); (first | refine kn_go (by assumption) ?_ | refine kr_go (by assumption) ?_); (try dsimp only)) | ((show (_ : Bool → Shared → Prop) _ _); rename Bool → Shared → Prop => K9; rename KT K9 _ => kb9; refine kb9 _ _ ?_; clear kb9 K9; (try dsimp only)))) | ((with_reducible show wpC _ _ _ _ _ _); (first | (((with_reducible show wpC _ _ (execs (_ :: _) _) _ _ _); refine execs_cons_G ?_; intro _ _ _)) | (((with_reducible show wpC _ _ (execs [] _) _ _ _); refine execs_nil_C ?_)) | (((with_reducible show wpC _ _ (exec (Stmt.If _ _ _ _) _) _ _ _); refine exec_If_G ?_; intro _ _)) | (((with_reducible show wpC _ _ (exec _ _) _ _ _); refine wpC_any ?_)))) | (dsimp only; (with_reducible show wpC _ _ _ _ _ _)) | ((fail_if_success (with_reducible show wpC _ _ _ _ _ _)); (first | walk1 | (dsimp only; walk1)))))
    · exact absurd (R2 (by assumption)) (by assumption)
    iterate 2
      · rename_i h3 tk3 t3 u3 v3 hr3 F3 N3 K3
        refine LCt.CompSrcT.range (n := ((pp.toArray.size : Int) - 2).toNat) hh F3 N3 hr3 (small_one (by decide) (by decide) (by simp only [List.size_toArray]; lia) (by simp only [List.size_toArray]; lia)) (by rw [rangeSize_nat, Int.sub_zero]) (by rw [sizeLine_eq]; simp only [List.size_toArray]; lia) (fun g => ?_)
        refine compRestT_J _ (fun i ys => (∃ zs, IntsAre ys zs) ∧ (false = false → ys = [])) trivial ?_ ?_ _ 0 [] rfl ⟨⟨[], .nil⟩, fun _ => rfl⟩
        · rintro j v ys I2 oI2 C oC D m₂ h tk E' hj ⟨tv, rfl⟩ ⟨⟨zs, z1⟩, z2⟩ hC hx F5 N5 off
          simp only [List.size_toArray] at hj
          (repeat' (first | (k_unfold; (try dsimp only)) | (first | (with_reducible first | ((show (_ : Flow → Shared → Prop) _ _); rename Flow → Shared → Prop => K9; rename KR K9 _ => kr9; rename KN K9 _ => kn9; (first | refine kn9 _ ?_ | refine kr9.ret _ _ ?_ | refine kr9.brk _ ?_ | refine kr9.cont _ ?_); clear kn9 kr9 K9; (try dsimp only)) | ((show (_ : Flow → Shared → Prop) _ _); (first | refine kn_go (by assumption) ?_ | refine kr_go (by assumption) ?_); (try dsimp only)) | ((show (_ : Bool → Shared → Prop) _ _); rename Bool → Shared → Prop => K9; rename KT K9 _ => kb9; refine kb9 _ _ ?_; clear kb9 K9; (try dsimp only)))) | ((fail_if_success (with_reducible show wpC _ _ _ _ _ _)); (first | walk1 | (dsimp only; walk1)))))
          · rename_i e1 e2
            exact ⟨⟨_, _, rfl, F5, N5⟩, ⟨zs ++ [_], IntsAre.append z1 (.cons _ _ .nil)⟩, fun _ => (three_absurd (j := j) (R4 rfl) e1 e2 (by lia) (by lia) (by lia) (by lia)).elim⟩
          · exact ⟨⟨_, _, rfl, F5, N5⟩, ⟨zs, z1⟩, z2⟩
          · exact ⟨⟨_, _, rfl, F5, N5⟩, ⟨zs, z1⟩, z2⟩
        · rintro ys ⟨⟨zs, z1⟩, z2⟩ D h tk F5 N5 off
          obtain rfl := z2 rfl
          have o7 := off1_ne off
          (repeat' (first | (k_unfold; (try dsimp only)) | (first | (with_reducible first | ((show (_ : Flow → Shared → Prop) _ _); rename Flow → Shared → Prop => K9; rename KR K9 _ => kr9; rename KN K9 _ => kn9; (first | refine kn9 _ ?_ | refine kr9.ret _ _ ?_ | refine kr9.brk _ ?_ | refine kr9.cont _ ?_); clear kn9 kr9 K9; (try dsimp only)) | ((show (_ : Flow → Shared → Prop) _ _); (first | refine kn_go (by assumption) ?_ | refine kr_go (by assumption) ?_); (try dsimp only)) | ((show (_ : Bool → Shared → Prop) _ _); rename Bool → Shared → Prop => K9; rename KT K9 _ => kb9; refine kb9 _ _ ?_; clear kb9 K9; (try dsimp only)))) | ((with_reducible show wpC _ _ _ _ _ _); (first | (((with_reducible show wpC _ _ (execs (_ :: _) _) _ _ _); refine execs_cons_G ?_; intro _ _ _)) | (((with_reducible show wpC _ _ (execs [] _) _ _ _); refine execs_nil_C ?_)) | (((with_reducible show wpC _ _ (exec (Stmt.If _ _ _ _) _) _ _ _); refine exec_If_G ?_; intro _ _)) | (((with_reducible show wpC _ _ (exec _ _) _ _ _); refine wpC_any ?_)))) | (dsimp only; (with_reducible show wpC _ _ _ _ _ _)) | ((fail_if_success (with_reducible show wpC _ _ _ _ _ _)); (first | walk1 | (dsimp only; walk1)))))
          · rename (_ == _) = true => hb9
            exact absurd (eq_of_beq hb9) R1
          · show TurnEnd _ _ _ _ _ _ _
            rename News _ _ _ _ => N8
            rename Fr _ _ _ _ => F8
            rename _ = Data.cell (some _) => dq
            have e9 := placeAt_succ hl9
            refine ⟨_, _, _, (L' + 1, _) :: (f, W.listOf vs.toArray cap) :: (os ++ rest), rfl, F8, news_sub N8 ?_, ?_, hm1, ⟨_, congrArg some (int_eq e9.symm)⟩, _, _, dq, rfl⟩
            · intro y hy
              rcases List.mem_cons.mp hy with rfl | hy
              · k_mem
              rcases List.mem_cons.mp hy with rfl | hy
              · k_mem
              rcases List.mem_cons.mp hy with rfl | hy
              · k_mem
              walk_at "tailM"
            · exact nd5
    · exact absurd (R2 (by assumption)) (by assumption)
    iterate 2
      · rename_i h3 tk3 t3 u3 v3 hr3 F3 N3 K3
        refine LCt.CompSrcT.range (n := ((pp.toArray.size : Int) - 2).toNat) hh F3 N3 hr3 (small_one (by decide) (by decide) (by simp only [List.size_toArray]; lia) (by simp only [List.size_toArray]; lia)) (by rw [rangeSize_nat, Int.sub_zero]) (by rw [sizeLine_eq]; simp only [List.size_toArray]; lia) (fun g => ?_)
        refine compRestT_J _ (fun i ys => (∃ zs, IntsAre ys zs) ∧ (true = false → ys = [])) trivial ?_ ?_ _ 0 [] rfl ⟨⟨[], .nil⟩, fun _ => rfl⟩
        · rintro j v ys I2 oI2 C oC D m₂ h tk E' hj ⟨tv, rfl⟩ ⟨⟨zs, z1⟩, z2⟩ hC hx F5 N5 off
          simp only [List.size_toArray] at hj
          (repeat' (first | (k_unfold; (try dsimp only)) | (first | (with_reducible first | ((show (_ : Flow → Shared → Prop) _ _); rename Flow → Shared → Prop => K9; rename KR K9 _ => kr9; rename KN K9 _ => kn9; (first | refine kn9 _ ?_ | refine kr9.ret _ _ ?_ | refine kr9.brk _ ?_ | refine kr9.cont _ ?_); clear kn9 kr9 K9; (try dsimp only)) | ((show (_ : Flow → Shared → Prop) _ _); (first | refine kn_go (by assumption) ?_ | refine kr_go (by assumption) ?_); (try dsimp only)) | ((show (_ : Bool → Shared → Prop) _ _); rename Bool → Shared → Prop => K9; rename KT K9 _ => kb9; refine kb9 _ _ ?_; clear kb9 K9; (try dsimp only)))) | ((fail_if_success (with_reducible show wpC _ _ _ _ _ _)); (first | walk1 | (dsimp only; walk1)))))
          · rename_i e1 e2
            exact ⟨⟨_, _, rfl, F5, N5⟩, ⟨zs ++ [_], IntsAre.append z1 (.cons _ _ .nil)⟩, fun h => nomatch h⟩
          · exact ⟨⟨_, _, rfl, F5, N5⟩, ⟨zs, z1⟩, z2⟩
          · exact ⟨⟨_, _, rfl, F5, N5⟩, ⟨zs, z1⟩, z2⟩
        · rintro ys ⟨⟨zs, z1⟩, z2⟩ D h tk F5 N5 off
          have o7 := off1_ne off
          (repeat' (first | (k_unfold; (try dsimp only)) | (first | (with_reducible first | ((show (_ : Flow → Shared → Prop) _ _); rename Flow → Shared → Prop => K9; rename KR K9 _ => kr9; rename KN K9 _ => kn9; (first | refine kn9 _ ?_ | refine kr9.ret _ _ ?_ | refine kr9.brk _ ?_ | refine kr9.cont _ ?_); clear kn9 kr9 K9; (try dsimp only)) | ((show (_ : Flow → Shared → Prop) _ _); (first | refine kn_go (by assumption) ?_ | refine kr_go (by assumption) ?_); (try dsimp only)) | ((show (_ : Bool → Shared → Prop) _ _); rename Bool → Shared → Prop => K9; rename KT K9 _ => kb9; refine kb9 _ _ ?_; clear kb9 K9; (try dsimp only)))) | ((with_reducible show wpC _ _ _ _ _ _); (first | (((with_reducible show wpC _ _ (execs (_ :: _) _) _ _ _); refine execs_cons_G ?_; intro _ _ _)) | (((with_reducible show wpC _ _ (execs [] _) _ _ _); refine execs_nil_C ?_)) | (((with_reducible show wpC _ _ (exec (Stmt.If _ _ _ _) _) _ _ _); refine exec_If_G ?_; intro _ _)) | (((with_reducible show wpC _ _ (exec _ _) _ _ _); refine wpC_any ?_)))) | (dsimp only; (with_reducible show wpC _ _ _ _ _ _)) | ((fail_if_success (with_reducible show wpC _ _ _ _ _ _)); (first | walk1 | (dsimp only; walk1)))))
          · rename (_ == _) = true => hb9
            exact absurd (eq_of_beq hb9) R1
          · rename _ < (3 : Int) => hb9
            exact absurd hb9 (by have := R3 rfl; simp only [List.size_toArray]; lia)
          · show TurnEnd _ _ _ _ _ _ _
            rename News _ _ _ _ => N8
            rename Fr _ _ _ _ => F8
            rename _ = Data.cell (some _) => dq
            have e9 := placeAt_succ hl9
            refine ⟨_, _, _, (L' + 1, _) :: (f, W.listOf vs.toArray cap) :: (os ++ rest), rfl, F8, news_sub N8 ?_, ?_, hm1, ⟨_, congrArg some (int_eq e9.symm)⟩, _, _, dq, rfl⟩
            · intro y hy
              rcases List.mem_cons.mp hy with rfl | hy
              · k_mem
              rcases List.mem_cons.mp hy with rfl | hy
              · k_mem
              rcases List.mem_cons.mp hy with rfl | hy
              · k_mem
              walk_at "tailM"
            · exact nd5
  case done =>
    rintro h tk m₁ nw ⟨hm1, ⟨tp, hm2⟩, q, v0, hq, rfl⟩ F5 N5 nd5
    dsimp only
    (repeat' (first | (k_unfold; (try dsimp only)) | (first | (with_reducible first | ((show (_ : Flow → Shared → Prop) _ _); rename Flow → Shared → Prop => K9; rename KR K9 _ => kr9; rename KN K9 _ => kn9; (first | refine kn9 _ ?_ | refine kr9.ret _ _ ?_ | refine kr9.brk _ ?_ | refine kr9.cont _ ?_); clear kn9 kr9 K9; (try dsimp only)) | ((show (_ : Flow → Shared → Prop) _ _); (first | refine kn_go (by assumption) ?_ | refine kr_go (by assumption) ?_); (try dsimp only)) | ((show (_ : Bool → Shared → Prop) _ _); rename Bool → Shared → Prop => K9; rename KT K9 _ => kb9; refine kb9 _ _ ?_; clear kb9 K9; (try dsimp only)))) | ((with_reducible show wpC _ _ _ _ _ _); (first | (((with_reducible show wpC _ _ (execs (_ :: _) _) _ _ _); refine execs_cons_G ?_; intro _ _ _)) | (((with_reducible show wpC _ _ (exec _ _) _ _ _); refine wpC_any ?_)))) | (dsimp only; (with_reducible show wpC _ _ _ _ _ _)) | ((fail_if_success (with_reducible show wpC _ _ _ _ _ _)); (first | walk1 | (dsimp only; walk1)))))
    rename News _ _ _ _ => N8
    rename Fr _ _ _ _ => F8
    exact ret (.bool true) _ _ ((f, W.listOf vs.toArray cap) :: os) F8 (news_sub N8 (fun p hp => .tail _ hp)) nd ⟨rfl, rfl⟩
end
section
theorem byte_id (c : UInt8) : ((c.toNat : Int).toNat).toUInt8 = c := by simp
theorem byteArr_rep (c : UInt8) (n : Nat) : byteArr (List.replicate n (c.toNat : Int)) = (List.replicate n c).toArray := by
  unfold byteArr
  simp
theorem run_plain : ∀ (r : List UInt8) (k : Nat) (out : Array UInt8), k ≤ r.length → Dec.run ⟨false, #[], out, (k : Int), 0⟩ r = Dec.run ⟨false, #[], out ++ (r.take k).toArray, 0, 0⟩ (r.drop k)
  | r, 0, out, _ => by simp
  | [], k + 1, out, h => by simp at h
  | c :: r, k + 1, out, h => by
    have ih := run_plain r k (out.push c) (by simpa using h)
    rw [Dec.run, if_neg (by simp)]
    have e : Dec.take ⟨false, #[], out, ((k + 1 : Nat) : Int), 0⟩ (c.toNat : Int) = ⟨false, #[], out.push c, (k : Int), 0⟩ := by
      unfold Dec.take
      rw [if_pos (by dsimp only; lia), byte_id]
      simp
    rw [e, ih]
    simp only [List.take_succ_cons, List.drop_succ_cons]
    congr 2
    simp
theorem run_plain_short : ∀ (r : List UInt8) (k : Nat) (out : Array UInt8), r.length < k → (Dec.run ⟨false, #[], out, (k : Int), 0⟩ r).done = false ∧ 0 < (Dec.run ⟨false, #[], out, (k : Int), 0⟩ r).plain
  | [], k, out, h => by
    simp only [List.length_nil] at h
    rw [Dec.run]
    exact ⟨rfl, by dsimp only; lia⟩
  | c :: r, 0, out, h => by simp at h
  | c :: r, k + 1, out, h => by
    have ih := run_plain_short r k (out.push c) (by simpa using h)
    rw [Dec.run, if_neg (by simp)]
    have e : Dec.take ⟨false, #[], out, ((k + 1 : Nat) : Int), 0⟩ (c.toNat : Int) = ⟨false, #[], out.push c, (k : Int), 0⟩ := by
      unfold Dec.take
      rw [if_pos (by dsimp only; lia), byte_id]
      simp
    rw [e]
    exact ih
theorem take0 (out : Array UInt8) (c : UInt8) : Dec.take ⟨false, #[], out, 0, 0⟩ (c.toNat : Int) = if c.toNat = 128 then ⟨true, #[], out, 0, 0⟩ else if c.toNat < 128 then ⟨false, #[], out, ((c.toNat + 1 : Nat) : Int), 0⟩ else ⟨false, #[], out, 0, ((257 - c.toNat : Nat) : Int)⟩ := by
  have hc := c.toNat_lt
  unfold Dec.take
  rw [if_neg (by dsimp only; lia), if_neg (by dsimp only; lia)]
  dsimp only
  by_cases h : c.toNat = 128
  · rw [if_pos (by lia), if_pos h]
  · rw [if_neg (by lia), if_neg h]
    by_cases h2 : c.toNat < 128
    · rw [if_pos (by lia), if_pos h2]; simp
    · rw [if_neg (by lia), if_neg h2]; congr 1; lia
/-- the decoder reads as the law's own reader does -/
theorem dec_lots : ∀ (n : Nat) (l : List UInt8), l.length ≤ n → ∀ out : Array UInt8,
    (lotsL l = none → (Dec.run ⟨false, #[], out, 0, 0⟩ l).done = false ∧ (0 < (Dec.run ⟨false, #[], out, 0, 0⟩ l).plain ∨ 0 < (Dec.run ⟨false, #[], out, 0, 0⟩ l).many)) ∧
    (∀ ls r, lotsL l = some (ls, r) → Dec.run ⟨false, #[], out, 0, 0⟩ l = ⟨r.isSome, (r.getD []).toArray, out ++ ((ls.map (·.2)).flatten).toArray, 0, 0⟩)
  | _, [], _, out => by
    rw [lotsL_nil]
    refine ⟨fun h => absurd h (by simp), fun ls r h => ?_⟩
    obtain ⟨rfl, rfl⟩ := Prod.mk.inj (Option.some.inj h)
    simp [Dec.run]
  | n + 1, s :: r, hn, out => by
    have hs := s.toNat_lt
    rw [Dec.run, if_neg (by simp), take0]
    by_cases h1 : s.toNat = 128
    · rw [lotsL_mark h1, if_pos h1]
      refine ⟨fun h => absurd h (by simp), fun ls r' h => ?_⟩
      obtain ⟨rfl, rfl⟩ := Prod.mk.inj (Option.some.inj h)
      cases r with
      | nil => simp [Dec.run]
      | cons c r => rw [Dec.run, if_pos rfl]; simp
    · rw [if_neg h1]
      by_cases h2 : s.toNat < 128
      · rw [if_pos h2]
        by_cases h3 : s.toNat < r.length
        · rw [run_plain r (s.toNat + 1) out (by lia), lotsL_plain h2 h3]
          have ih := dec_lots n (r.drop (s.toNat + 1)) (by simp only [List.length_drop, List.length_cons] at hn ⊢; lia) (out ++ (r.take (s.toNat + 1)).toArray)
          refine ⟨fun h => ih.1 (by simpa using h), fun ls r' h => ?_⟩
          obtain ⟨⟨l1, r1⟩, e1, e2⟩ := Option.map_eq_some_iff.mp h
          obtain ⟨rfl, rfl⟩ := Prod.mk.inj e2
          rw [ih.2 l1 _ e1]
          simp
        · rw [lotsL_short h2 (by lia)]
          have := run_plain_short r (s.toNat + 1) out (by lia)
          exact ⟨fun _ => ⟨this.1, .inl this.2⟩, fun ls r h => absurd h (by simp)⟩
      · rw [if_neg h2]
        cases r with
        | nil =>
          rw [lotsL_bare (by lia), Dec.run]
          exact ⟨fun _ => ⟨rfl, .inr (by dsimp only; lia)⟩, fun ls r h => absurd h (by simp)⟩
        | cons c r =>
          rw [lotsL_run (by lia), Dec.run, if_neg (by simp)]
          have e : Dec.take ⟨false, #[], out, 0, ((257 - s.toNat : Nat) : Int)⟩ (c.toNat : Int) = ⟨false, #[], out ++ (List.replicate (257 - s.toNat) c).toArray, 0, 0⟩ := by
            unfold Dec.take
            rw [if_neg (by dsimp only; lia), if_pos (by dsimp only; lia)]
            dsimp only
            rw [Int.toNat_natCast, byteArr_rep]
          rw [e]
          have ih := dec_lots n r (by simp only [List.length_cons] at hn; lia) (out ++ (List.replicate (257 - s.toNat) c).toArray)
          refine ⟨fun h => ih.1 (by simpa using h), fun ls r' h => ?_⟩
          obtain ⟨⟨l1, r1⟩, e1, e2⟩ := Option.map_eq_some_iff.mp h
          obtain ⟨rfl, rfl⟩ := Prod.mk.inj e2
          rw [ih.2 l1 _ e1]
          rw [Array.append_assoc]
          simp only [List.map_cons, List.flatten_cons, List.append_toArray]
/-- reading in pieces -/
theorem dec_append : ∀ (a b : List UInt8) (st : Dec), Dec.run st (a ++ b) = Dec.run (Dec.run st a) b
  | [], b, st => by simp [Dec.run]
  | c :: a, b, st => by
    rw [List.cons_append, Dec.run]
    by_cases h : st.done = true
    · rw [if_pos h]
      conv => rhs; rw [Dec.run, if_pos h]
      cases b with
      | nil => simp [Dec.run]
      | cons e b => rw [Dec.run, if_pos h]; simp
    · rw [if_neg h, dec_append a b]
      conv => rhs; rw [Dec.run, if_neg h]
theorem take_out (st : Dec) (x : Array UInt8) (n : Int) : Dec.take { st with out := x ++ st.out } n = { Dec.take st n with out := x ++ (Dec.take st n).out } := by
  unfold Dec.take
  dsimp only
  repeat' split
  all_goals simp
theorem dec_out : ∀ (l : List UInt8) (st : Dec) (x : Array UInt8), Dec.run { st with out := x ++ st.out } l = { Dec.run st l with out := x ++ (Dec.run st l).out }
  | [], st, x => by simp [Dec.run]
  | c :: l, st, x => by
    rw [Dec.run, Dec.run]
    by_cases h : st.done = true
    · rw [if_pos h, if_pos h]
    · rw [if_neg h, if_neg h, take_out, dec_out l]
theorem lots_len : ∀ (n : Nat) (l : List UInt8), l.length ≤ n → ∀ ls r, lotsL l = some (ls, r) → ls.length ≤ l.length ∧ ∀ r', r = some r' → r' <:+ l
  | _, [], _, ls, r, h => by
    rw [lotsL_nil] at h
    obtain ⟨rfl, rfl⟩ := Prod.mk.inj (Option.some.inj h)
    exact ⟨Nat.le_refl _, fun _ e => nomatch e⟩
  | n + 1, s :: r, hn, ls, r9, h => by
    simp only [List.length_cons] at hn
    by_cases h1 : s.toNat = 128
    · rw [lotsL_mark h1] at h
      obtain ⟨rfl, rfl⟩ := Prod.mk.inj (Option.some.inj h)
      exact ⟨Nat.zero_le _, fun r' e => by cases e; exact List.suffix_cons _ _⟩
    · by_cases h2 : s.toNat < 128
      · by_cases h3 : s.toNat < r.length
        · rw [lotsL_plain h2 h3] at h
          obtain ⟨⟨l1, r1⟩, e1, e2⟩ := Option.map_eq_some_iff.mp h
          obtain ⟨rfl, rfl⟩ := Prod.mk.inj e2
          have ih := lots_len n (r.drop (s.toNat + 1)) (by simp only [List.length_drop]; lia) l1 r1 e1
          simp only [List.length_drop] at ih
          exact ⟨by simp only [List.length_cons]; lia, fun r' e => (ih.2 r' e).trans ((List.drop_suffix _ _).trans (List.suffix_cons _ _))⟩
        · rw [lotsL_short h2 (by lia)] at h
          cases h
      · cases r with
        | nil =>
          rw [lotsL_bare (by lia)] at h
          cases h
        | cons c r =>
          rw [lotsL_run (by lia)] at h
          obtain ⟨⟨l1, r1⟩, e1, e2⟩ := Option.map_eq_some_iff.mp h
          obtain ⟨rfl, rfl⟩ := Prod.mk.inj e2
          simp only [List.length_cons] at hn
          have ih := lots_len n r (by lia) l1 r1 e1
          exact ⟨by simp only [List.length_cons]; lia, fun r' e => (ih.2 r' e).trans ((List.suffix_cons _ _).trans (List.suffix_cons _ _))⟩
/-- a piece more -/
theorem feed_step (D : Dec) (p : List UInt8) : Dec.run D p = { Dec.run ⟨D.done, D.left, #[], D.plain, D.many⟩ p with out := D.out ++ (Dec.run ⟨D.done, D.left, #[], D.plain, D.many⟩ p).out } := by
  have := dec_out p ⟨D.done, D.left, #[], D.plain, D.many⟩ D.out
  rw [← this]
  obtain ⟨a, b, c, d, e⟩ := D
  simp
/-- what a list of three pieces holds up to the i-th -/
def pre3 (p1 p2 p3 : Array UInt8) (i : Nat) : List UInt8 := (([p1, p2, p3].take i).map Array.toList).flatten
theorem pre3_all (p1 p2 p3 : Array UInt8) {b : Array UInt8} (h : p1 ++ p2 ++ p3 = b) : pre3 p1 p2 p3 3 = b.toList := by
  subst h; simp [pre3]
theorem pre3_step {p1 p2 p3 b : Array UInt8} (h : p1 ++ p2 ++ p3 = b) {t1 t2 t3 : Tok} {i : Nat} {v : Value} (hv : #[Value.bytes p1 t1, .bytes p2 t2, .bytes p3 t3][i]? = some v) :
    ∃ p t, v = .bytes p t ∧ pre3 p1 p2 p3 (i + 1) = pre3 p1 p2 p3 i ++ p.toList ∧ p.size ≤ b.size ∧ (pre3 p1 p2 p3 i).length ≤ b.size := by
  subst h
  match i, hv with
  | 0, hv => exact ⟨p1, t1, by simpa using hv.symm, by simp [pre3], by simp only [Array.size_append]; lia, by simp [pre3]⟩
  | 1, hv => exact ⟨p2, t2, by simpa using hv.symm, by simp [pre3], by simp only [Array.size_append]; lia, by simp [pre3]⟩
  | 2, hv => exact ⟨p3, t3, by simpa using hv.symm, by simp [pre3], by simp only [Array.size_append]; lia, by simp [pre3]⟩
  | i + 3, hv => simp at hv
end
section
open Sem (wp)
namespace BJ
theorem slot : Slot "bytes" "join" "bytes.join" :=
  .of (owner := "bytes") (n := "join") (by rw [typeLookup_type, builtinLookup_eq_fast]; kernel_rfl) (by decide +kernel) (by decide +kernel) (by decide +kernel)
    (by first | exact .inl (by decide +kernel) | exact .inr (by decide +kernel)) (by rw [isSubtype_type]; kernel_rfl)
theorem entry : entryFor table "bytes.join" = some Builtin.«bytes.join» := entryFor_of_tree (by kernel_rfl)
theorem args (a b : Value) : argsOk "bytes.join" ⟨[a, b], []⟩ := by unfold argsOk; kernel_rfl
theorem look_buffer : typeLookup (.type "bytes") "__buffer__" = pure (some (.builtin "bytes.__buffer__")) := by rw [typeLookup_type, builtinLookup_eq_fast]; kernel_rfl
theorem look_release : typeLookup (.type "bytes") "__release_buffer__" = pure none := by rw [typeLookup_type, builtinLookup_eq_fast]; kernel_rfl
theorem sub_self : isSubtype (.type "bytes") (.type "bytes") = pure true := by rw [isSubtype_type]; kernel_rfl
end BJ
section
variable {M : Model} {prog : Program} {w : World} {A : Around} {E : Value → Shared → Prop} {s : Shared} {b : Array UInt8} {t : Tok}
theorem own_buffer_by {Q : Bool → Shared → Prop} (h : Q true s) : wpAny M A (Builtin.Bytes.slotIsOwn (.bytes b t) "__buffer__") Q E s := by
  have hT := typeIs_bytes s b t
  unfold Builtin.Bytes.slotIsOwn
  refine wpAny_bind (wpAny_specialOf (T := "bytes") hT BJ.look_buffer ?_)
  dsimp only
  have e1 : (!("bytes.__buffer__".endsWith ("." ++ "__buffer__"))) = false := by decide +kernel
  have e2 : ("bytes.__buffer__".dropRight ("__buffer__".length + 1)) = "bytes" := by decide +kernel
  rw [e1, e2]
  refine wpAny_ite ?_
  rw [if_neg Bool.false_ne_true]
  exact wpAny_isInstance hT BJ.sub_self h
theorem own_release_by {Q : Bool → Shared → Prop} (h : Q false s) : wpAny M A (Builtin.Bytes.ownRelease (.bytes b t)) Q E s := by
  unfold Builtin.Bytes.ownRelease Builtin.Bytes.slotIsOwn
  refine wpAny_bind (wpAny_bind (wpAny_specialOf (T := "bytes") (typeIs_bytes s b t) BJ.look_release ?_))
  exact wpAny_pure (wpAny_pure h)
theorem buffer_by {id : String} {full : Bool} {Q : Option (Array UInt8) → Shared → Prop} (h : Q (some b) s) : wpAny M A (Builtin.Bytes.buffer? id (.bytes b t) full) Q E s := by
  have hT := typeIs_bytes s b t
  unfold Builtin.Bytes.buffer?
  refine wpAny_bind (wpAny_specialOf hT BJ.look_buffer ?_)
  dsimp only
  refine wpAny_bind (own_buffer_by ?_)
  refine bm_if_false rfl ?_
  refine wpAny_bind (wpAny_specialOf hT BJ.look_buffer ?_)
  (try dsimp only)
  refine wpAny_bind (own_release_by ?_)
  refine bm_if_false rfl ?_
  exact wpAny_bind (wpAny_of_eq (a := b) rfl (wpAny_pure h))
theorem takeBuffer_by {id : String} {Q : Option (Array UInt8 × Option Value) → Shared → Prop} (h : Q (some (b, none)) s) :
    wpAny M A (Builtin.Bytes.takeBufferQuiet? id (.bytes b t) 0) Q E s := by
  have hT := typeIs_bytes s b t
  unfold Builtin.Bytes.takeBufferQuiet? Builtin.Bytes.takeBuffer?
  refine wpAny_bind (wpAny_attempt ?_)
  refine wpAny_bind (wpAny_specialOf hT BJ.look_buffer ?_)
  dsimp only
  refine wpAny_bind (own_buffer_by ?_)
  refine bm_if_false rfl ?_
  refine wpAny_bind (wpAny_specialOf hT BJ.look_buffer ?_)
  (try dsimp only)
  refine wpAny_bind (buffer_by ?_)
  exact wpAny_pure (wpAny_pure h)
theorem forIn_inv {σ : Type} {n : Nat} {body : Nat → σ → Sem (ForInStep σ)} {Q : σ → Shared → Prop} (I : Nat → σ → Prop)
    (step : ∀ i st (Q' : ForInStep σ → Shared → Prop), i < n → I i st → (∀ st', I (i + 1) st' → Q' (.yield st') s) → wpAny M A (body i st) Q' E s) :
    ∀ (k i : Nat) (st : σ), k + i = n → I i st → (∀ st', I n st' → Q st' s) → wpAny M A (forIn (List.range' i k 1) st body) Q E s
  | 0, i, st, e, h, hq => by
    obtain rfl : i = n := by lia
    exact wpAny_pure (hq st h)
  | k + 1, i, st, e, h, hq => by
    rw [List.range'_succ, List.forIn_cons]
    refine wpAny_bind (step i st _ (by lia) h fun st' h' => ?_)
    exact forIn_inv I step k (i + 1) st' (by lia) h' hq
def BytesAre (vs : List Value) (bs : List (List UInt8)) : Prop := vs.length = bs.length ∧ ∀ (i : Nat) v, vs[i]? = some v → ∃ p t, bs[i]? = some p ∧ v = .bytes p.toArray t
theorem joined_nil : ∀ (l : List (List UInt8)) (k : Nat) (acc : Array UInt8), (((l.map List.toArray).zipIdx k).foldl (fun (out : Array UInt8) (x : Array UInt8 × Nat) => (if x.2 > 0 then out ++ #[] else out) ++ x.1) acc) = acc ++ l.flatten.toArray
  | [], k, acc => by simp
  | p :: l, k, acc => by
    rw [List.map_cons, List.zipIdx_cons, List.foldl_cons, joined_nil l]
    simp
theorem size_sum : ∀ (l : List (List UInt8)) (k : Nat), (l.map List.toArray).foldl (fun (x1 : Nat) (x2 : Array UInt8) => x1 + x2.size) k = k + l.flatten.length
  | [], k => by simp
  | p :: l, k => by
    rw [List.map_cons, List.foldl_cons, size_sum l]
    simp only [List.size_toArray, List.flatten_cons, List.length_append]
    lia
theorem joinLetGo_by {keep : List Value} {Q : Unit → Shared → Prop} : ∀ (l : List (Value × Option Value)), (∀ x ∈ l, x.2 = none) → Q () s → wpAny M A (Builtin.Bytes.joinLetGo l keep) Q E s
  | [], _, h => wpAny_pure h
  | (x, u) :: l, hl, h => by
    obtain rfl : u = none := hl _ (.head _)
    unfold Builtin.Bytes.joinLetGo
    dsimp only
    exact wpAny_bind (wpAny_letGo (joinLetGo_by l (fun x hx => hl x (.tail _ hx)) h))
theorem join_by {D : Addr} {vs : List Value} {bs : List (List UInt8)} {Q : Value → Shared → Prop} (hl : s.heap.IsList D vs.toArray) (hb : BytesAre vs bs) (hz : bs.flatten.length ≤ 16777216)
    (h : ∀ t' k, Q (.bytes bs.flatten.toArray t') { s with toks := k }) : wpAny (model prog w) A (call (.builtin "bytes.join") [.bytes #[] t, .ref D]) Q E s := by
  refine wpAny_call (codeAny_call_builtin BJ.slot.plain BJ.entry (BJ.slot.check _ _ _ _ _ _ _ _ (typeIs_bytes _ _ _) (BJ.args _ _) ?_))
  obtain ⟨o, ho, hc, n, hd⟩ := id hl
  unfold Builtin.«bytes.join» Builtin.Bytes.joinM
  refine wpAny_bind (wpAny_of_eq (a := (Value.bytes #[] t, Value.ref D)) rfl ?_)
  dsimp only
  refine bm_if_true (by decide) ?_
  refine wpAny_bind ?_
  unfold Builtin.Bytes.joinItems
  refine wpAny_bind (wpAny_typeOf (T := "list") ⟨_, ho, hc⟩ ?_)
  refine bm_if_true (by decide) (wpAny_pure ?_)
  refine wpAny_bind (wpAny_seqItems ho hd ?_)
  dsimp only
  refine bm_if_true (by decide) ?_
  have key : ∀ (T1 : Value → Sem Fin) (T2 : Sem Fin) (Q9 : Fin → Shared → Prop) (E9 : Value → Shared → Prop), (∀ x, vs = [x] → wpAny (model prog w) A.in1 (T1 x) Q9 E9 s) → (vs.length ≠ 1 → wpAny (model prog w) A.in1 T2 Q9 E9 s) →
      wpAny (model prog w) A.in1 (match vs.toArray with | #[x] => T1 x | _ => T2) Q9 E9 s := by
    intro T1 T2 Q9 E9 k1 k2
    match vs, k1, k2 with
    | [], _, k2 => exact k2 (by simp)
    | [x], k1, _ => exact k1 x rfl
    | x :: y :: r, _, k2 => exact k2 (by simp)
  refine key _ _ _ _ (fun x hx => ?_) fun hx => ?_
  · subst hx
    obtain ⟨p, tp, h1, rfl⟩ := hb.2 0 x rfl
    have hbs : bs = [p] := by
      obtain ⟨hlen, _⟩ := hb
      match bs, h1, hlen with
      | [q], h1, _ => simpa using h1
    subst hbs
    refine wpAny_bind (wpAny_typeOf (typeIs_bytes _ _ _) ?_)
    refine bm_if_true (by decide) (wpAny_bind (wpAny_rule ?_))
    have h9 := h tp s.toks
    simp only [List.flatten_cons, List.flatten_nil, List.append_nil] at h9
    exact wpAny_pure h9
  · refine wpAny_bind ?_
    rw [Std.Legacy.Range.forIn_eq_forIn_range']
    refine forIn_inv (n := vs.toArray.size) (fun i st => st.1.toList = ((bs.take i).map List.toArray) ∧ ∀ x ∈ st.2, (∃ b t, x.1 = Value.bytes b t) ∧ x.2 = none) ?step _ 0 _ ?k ⟨rfl, fun _ hx => nomatch hx⟩ ?fin
    case k => simp
    case step =>
      rintro i ⟨ps, tk⟩ Q' hi ⟨h1, h2⟩ hq
      simp only [List.size_toArray] at hi
      obtain ⟨p, tp, h3, h4⟩ := hb.2 i _ (List.getElem?_eq_getElem hi)
      refine wpAny_bind (wpAny_seqItems ho hd ?_)
      dsimp only
      refine bm_if_false ?_ ?_
      · rw [Bool.eq_false_iff]
        intro hc9
        simp only [Bool.or_eq_true, List.any_eq_true] at hc9
        rcases hc9 with hc9 | ⟨x, hx, hx2⟩
        · exact absurd hc9 (by decide)
        · obtain ⟨⟨b9, t9, e9⟩, _⟩ := h2 x hx
          rw [e9] at hx2
          exact absurd hx2 (by simp [Value.onHeap])
      have e9 : vs.toArray.getD i Value.none = .bytes p.toArray tp := by
        rw [← h4]; simp [Array.getD, hi]
      rw [e9]
      refine wpAny_bind (wpAny_holding (takeBuffer_by ?_))
      dsimp only
      refine wpAny_bind (wpAny_seqItems ho hd ?_)
      dsimp only
      refine bm_if_false (by simp) (wpAny_pure (hq _ ⟨?_, ?_⟩))
      · dsimp only
        rw [Array.toList_push, h1, List.take_succ, h3]
        simp
      · intro x hx
        rcases List.mem_append.mp hx with hx | hx
        · exact h2 x hx
        · rw [List.mem_singleton.mp hx]
          exact ⟨⟨_, _, rfl⟩, rfl⟩
    case fin =>
      rintro ⟨ps, tk⟩ ⟨h1, h2⟩
      dsimp only at h1 h2 ⊢
      have e1 : (bs.take vs.toArray.size) = bs := List.take_of_length_le (by rw [← hb.1]; simp)
      rw [e1] at h1
      refine wpAny_bind (wpAny_of_eq (a := (#[] : Array UInt8)) rfl ?_)
      refine bm_if_false ?_ ?_
      · have e2 : Array.foldl (fun (x1 : Nat) (x2 : Array UInt8) => x1 + x2.size) ((#[] : Array UInt8).size * (ps.size - 1)) ps = bs.flatten.length := by
          rw [← Array.foldl_toList, h1, size_sum]
          simp
        rw [e2]
        unfold Builtin.Bytes.tooLong
        exact decide_eq_false (by rw [sizeLine_eq]; exact Nat.not_lt.mpr hz)
      rw [h1]
      unfold Builtin.Bytes.joined
      rw [joined_nil bs 0 #[], Array.empty_append]
      refine wpAny_bind (wpAny_mkBytes ?_ (by rw [sizeLine_eq, List.size_toArray]; exact hz))
      refine wpAny_bind (wpAny_holding (wpAny_point ?_))
      exact wpAny_bind (joinLetGo_by tk (fun x hx => (h2 x hx).2) (wpAny_pure (h _ _)))
end
end
section
open Sem (wp)
section
variable {w : World} {A : Around} {E : Value → Shared → Prop} {s : Shared} {R : Result → Shared → Prop}
/-- a def entered whose frame may catch: its base is free to change -/
theorem def_S {A₀ : Around} {h₀ : Heap} {outer : List Env} {L : Addr} {m mg mb : Str → Option Value} {env : Env} {news : List (Addr × Obj)} {p : Program} {loose : List Str} {mean : ExcName → Option Value}
    {name qual : Str} {params : Arguments} {body : List Stmt} {scope : Scope} {dV kV doc pm cdv ct oc : Value} {an od : Option Addr} {osl : Array (Option Value)} {f : Addr} {args : Args} {binds : List (Str × Value)}
    (B : Below A₀ h₀ outer h₀) (F : Fr h₀ L s.heap m) (X₀ : (Mine0.hd.heap_1 w.params).In h₀) (N : News h₀ L s.heap news) (T : Top p loose mean mg mb h₀) (hA : A.frames = some (env :: outer)) (hf : env.frame = some L) (hke : env.scope.kind = .function)
    (ho : (Mine0.hd.heap_1 w.params).lookup f = some ⟨oc, od, .func (fnOf name qual params body scope dV kV doc pm an cdv ct), osl⟩) (hcd : codeIn (Mine0.hd.heap_1 w.params) cdv qual = true) (hroom : A.depth < recursionLimit)
    (hbind : BindsTo s (fnOf name qual params body scope dV kV doc pm an cdv ct) args binds) (hloc : ∀ y ∈ binds, scope.names.lookup y.1 = some .local)
    (h : ∀ g L' h₁, Stand w A h₀ L m env outer p loose mean mg mb g → Fr g L' h₁ (fun y => binds.reverse.lookup y) → News g L' h₁ news → (∀ p ∈ news, p.1 < L') →
      wpC (model PySem.Challenge.rw_nt0489_01.row.prog w) (A.deeper (envOf qual scope L' f cdv)) (execs body (envOf qual scope L' f cdv))
        (fun fl s' => R (.ok (.ret (match fl with | .ret v => v | _ => .none))) s')
        (fun e s' => wpAny (model PySem.Challenge.rw_nt0489_01.row.prog w) (A.deeper (envOf qual scope L' f cdv)) (leaving (envOf qual scope L' f cdv) e) (fun _ s'' => R (.error e) s'') (fun e' s'' => R (.error e') s'') s')
        { s with heap := h₁, toks := s.toks + binds.length })
    (hco : scope.isCoroutine = false) (hgen : scope.isGenerator = false) (hk : scope.kind = .function)
    (hcell : ∀ x ∈ scope.names, x.2 ≠ .cell) : codeC (model PySem.Challenge.rw_nt0489_01.row.prog w) A (.call (.ref f) args) R s := by
  obtain ⟨FG, BG, st, lv⟩ := groundX (R := R) B F N hA hf hke
  refine codeC_call_function (fd := fnOf name qual params body scope dV kV doc pm an cdv ct) (body := body) hroom ((X₀.keeps F.keep) _ _ ho) rfl hco hgen rfl (codeRec_of (X₀.keeps F.keep) hcd) (hbind _ _ _ _ ?_)
  refine wpAny_newFunctionEnv hcell hloc (fun h₁ hns hsb => ⟨(T.nolimit.keeps F.keep).fresh _ hsb, codeC_func ?_⟩) hk
  have hk₁ : ∀ b o, s.heap.get? b = some o → h₁.get? b = some o := fun b o e => hsb.extBut b o (Nat.ne_of_lt (Heap.lt_size e)) (Heap.get?_push_of_some _ e)
  exact h _ s.heap.objs.size h₁ ⟨FG, BG, X₀.keeps st, T.keeps st⟩ ⟨hns, fun b o e => hk₁ b o (of_hideAll _ e), Nat.le_of_eq (hideAll_size _ _)⟩
    (fun p hp => ⟨hk₁ _ _ (N p hp).1, Nat.ne_of_lt (Heap.lt_size (N p hp).1), hideAll_none _ (List.mem_map_of_mem hp)⟩) (fun p hp => Heap.lt_size (N p hp).1)
/-- back in the caller's frame -/
theorem Stand.back {h₀ g h : Heap} {L L' : Addr} {m mg mb m' : Str → Option Value} {env : Env} {outer : List Env} {p : Program} {loose : List Str} {mean : ExcName → Option Value} {l : List (Addr × Obj)}
    (S : Stand w A h₀ L m env outer p loose mean mg mb g) (F : Fr g L' h m') (N : News g L' h l) : Fr h₀ L h m ∧ News h₀ L h l := by
  refine ⟨⟨?_, fun b o q => F.keep b o (S.fr.keep b o q), S.fr.above⟩, fun q hq => ⟨(N q hq).1, ?_, ?_⟩⟩
  · obtain ⟨o, es, ep, ho, r⟩ := S.fr.ns
    exact ⟨o, es, ep, F.keep _ _ ho, r⟩
  · exact (fresh_one S.fr (N q hq).2.2).2
  · exact (fresh_one S.fr (N q hq).2.2).1
/-- the same as Ctr, the base that of the caller -/
def CtrB (w : World) (k : Nat) (f : Addr) (args : List Value) (pre : List (Addr × Obj)) (post : Value → List (Addr × Obj) → Prop) : Prop :=
  ∀ {A A₀ : Around} {h₀ : Heap} {outer : List Env} {L : Addr} {m mg mb : Str → Option Value} {env : Env} {p : Program} {loose : List Str} {mean : ExcName → Option Value} {rest : List (Addr × Obj)} {s : Shared} {R : Result → Shared → Prop},
    Below A₀ h₀ outer h₀ → Fr h₀ L s.heap m → (Mine0.hd.heap_1 w.params).In h₀ → Led h₀ L s.heap (pre ++ rest) → Top p loose mean mg mb h₀ → A.frames = some (env :: outer) → env.frame = some L → env.scope.kind = .function → A.handled = none →
    A.depth + k < recursionLimit → A.units + 8 * k < cLine →
    (∀ v h' tk' l', Fr h₀ L h' m → News h₀ L h' (l' ++ rest) → ((l' ++ rest).map (·.1)).Nodup → post v l' → R (.ok (.ret v)) { s with heap := h', toks := tk' }) →
    codeC (model PySem.Challenge.rw_nt0489_01.row.prog w) A (.call (.ref f) ⟨args, []⟩) R s
theorem use_ctrB {k : Nat} {f : Addr} {args : List Value} {pre : List (Addr × Obj)} {post : Value → List (Addr × Obj) → Prop} (C : CtrB w k f args pre post)
    {A A₀ : Around} {h₀ : Heap} {outer : List Env} {L : Addr} {m mg mb : Str → Option Value} {env : Env} {p : Program} {loose : List Str} {mean : ExcName → Option Value} {rest : List (Addr × Obj)} {s : Shared} {Q E : Value → Shared → Prop}
    (F : Fr h₀ L s.heap m) (N : News h₀ L s.heap (pre ++ rest)) (nd : ((pre ++ rest).map (·.1)).Nodup) (B : Below A₀ h₀ outer h₀) (X : (Mine0.hd.heap_1 w.params).In h₀) (T : Top p loose mean mg mb h₀)
    (hA : A.frames = some outer) (hf : env.frame = some L) (hk : env.scope.kind = .function) (hh : A.handled = none) (hd : A.depth + 1 + k < recursionLimit) (hu : A.units + 3 + 8 * k < cLine)
    (h : ∀ v h' tk' l', Fr h₀ L h' m → News h₀ L h' (l' ++ rest) → ((l' ++ rest).map (·.1)).Nodup → post v l' → Q v { s with heap := h', toks := tk' }) :
    wpC (model PySem.Challenge.rw_nt0489_01.row.prog w) (A.deeper env) (call (.ref f) args) Q E s :=
  wpC_call (C B F X ⟨N, nd⟩ T (by simp only [Around.deeper, hA, Option.map_some]) hf hk hh hd hu h)
/-- the law's own reader called -/
theorem use_lots {b : Array UInt8} {tb : Tok} {l₁ l₂ : List (Addr × Obj)} (hb : b.size ≤ 100000)
    {A A₀ : Around} {base h₀ : Heap} {outer : List Env} {L : Addr} {m mg mb : Str → Option Value} {env : Env} {p : Program} {loose : List Str} {mean : ExcName → Option Value} {s : Shared} {Q E : Value → Shared → Prop}
    (F : Fr h₀ L s.heap m) (N : News h₀ L s.heap (l₁ ++ l₂)) (nd : ((l₁ ++ l₂).map (·.1)).Nodup) (B : Below A₀ base outer h₀) (X : (Mine0.hd.heap_1 w.params).In h₀) (T : Top p loose mean mg mb h₀)
    (hA : A.frames = some outer) (hf : env.frame = some L) (hk : env.scope.kind = .function) (hh : A.handled = none) (hd : A.depth + 1 + 10 < recursionLimit) (hu : A.units + 3 + 8 * 10 < cLine)
    (h0 : lotsL b.toList = none → ∀ h' tk', Fr h₀ L h' m → News h₀ L h' (l₁ ++ l₂) → Q .none { s with heap := h', toks := tk' })
    (h1 : ∀ ls r D f vs cap os x h' tk', lotsL b.toList = some (ls, r) → LotObjs ls vs os → ((r = none ∧ x = .none) ∨ ∃ r' t, r = some r' ∧ x = .int ((b.toList.length : Int) - r'.length) t) → Fr h₀ L h' m →
      News h₀ L h' ((D, tupOf [.ref f, x]) :: (f, W.listOf vs.toArray cap) :: (l₁ ++ (os ++ l₂))) → (((D, tupOf [.ref f, x]) :: (f, W.listOf vs.toArray cap) :: (l₁ ++ (os ++ l₂))).map (·.1)).Nodup → Q (.ref D) { s with heap := h', toks := tk' }) :
    wpC (model PySem.Challenge.rw_nt0489_01.row.prog w) (A.deeper env) (call (.ref 232) [.bytes b tb]) Q E s := by
  refine use_ctr2 (lots w hb) (rest := l₁ ++ l₂) F N nd B X T hA hf hk hh hd hu fun v h' tk' l' F' N' nd' hp => ?_
  rcases hp with ⟨e, rfl, rfl⟩ | ⟨ls, r, D, f, vs, cap, os, x, e, rfl, rfl, hlo, hr⟩
  · exact h0 e _ _ F' N'
  · have pp : List.Perm (((D, tupOf [.ref f, x]) :: (f, W.listOf vs.toArray cap) :: os) ++ (l₁ ++ l₂)) ((D, tupOf [.ref f, x]) :: (f, W.listOf vs.toArray cap) :: (l₁ ++ (os ++ l₂))) := by
      simp only [List.cons_append]
      refine .cons _ (.cons _ ?_)
      rw [← List.append_assoc, ← List.append_assoc]
      exact (List.perm_append_comm).append_right _
    exact h1 ls r D f vs cap os x h' tk' e hlo hr F' (news_perm pp N') (nodup_perm pp nd')
theorem exec_AssignSwap_C {M : Model} {env : Env} {elts : List Expr} {k : Nat} {tpos : Pos} {value : Expr} {pos : Pos} {names : List Str} {Q : Flow → Shared → Prop}
    (h : wpC M A (eval value env) (fun v s₁ => wpAny M A (unpackItems v names.length none) (fun items s₂ =>
      wpAny M A (assignInOrder (names.reverse.map fun n => bindName env n) items.reverse) (fun _ => Q .next) E s₂) E s₁) E s)
    (hw : swappedStores [.Tuple elts k tpos] value env = pure (some names) := by rfl)
    (hs : swapsWithSole [.Tuple elts k tpos] value pos.line env = pure false := by rfl) :
    wpC M A (exec (.Assign [.Tuple elts k tpos] value pos) env) Q E s := by
  refine exec_Assign_C (wpC_mono h (fun v s₁ h₁ => ?_) fun _ _ x => x) hs
  rw [hw]
  refine wpAny_pure ?_
  show wpAny M A (do rule "assign.swapped-stores"; let items ← unpackItems v names.length none; assignInOrder (names.reverse.map fun n => bindName env n) items.reverse; pure .next) Q E s₁
  exact wpAny_bind (wpAny_rule (wpAny_bind (wpAny_mono h₁ (fun items s₂ h₂ => wpAny_bind (wpAny_mono h₂ (fun _ _ x => wpAny_pure x) fun _ _ x => x)) fun _ _ x => x)))
theorem nodup_sub {l l' : List (Addr × Obj)} (nd : (l.map (·.1)).Nodup) (hs : List.Sublist l' l) : (l'.map (·.1)).Nodup := List.Nodup.sublist (hs.map _) nd
end
end
section
open Sem (wp)
section
variable {prog : Program} {w : World} {A : Around} {E : Value → Shared → Prop} {K : Frag} {s : Shared}
/-- an attribute of an exception's own dict read -/
theorem get_exc {x d C P : Addr} {vs : Array Value} {od : Obj} {name : Str} {v : Value} {expr : Bool} {Q : Value → Shared → Prop} (X : K.In s.heap) (hx : s.heap.get? x = some (excObj C d vs)) (hdo : s.heap.get? d = some od)
    (hga : findIn K (.ref C) "__getattribute__" = some (some (.builtin "BaseException.__getattribute__"))) (hgm : findIn K (.ref C) "__getattr__" = some none)
    (hc : (clsIn K C).map (fun cd => (cd.hasDict, cd.mro)) = some (true, .ref C :: tailX P))
    (hf : findObj K C (some od) name = some (.value v)) (hv : handedIn v = true) (h : Q v { s with toks := s.toks + 1 }) : wpAny (model prog w) A (getAttr (.ref x) name expr) Q E s := by
  obtain ⟨cd, hcd, hcm⟩ := Option.map_eq_some_iff.mp hc
  obtain ⟨hdc, hmro⟩ := Prod.mk.inj hcm
  obtain ⟨hh, g, d9, t, os⟩ := s
  have I : InstAt hh x (excObj C d vs) C (some od) := ⟨hx, rfl, rfl, hdo⟩
  have L0 := I.type (M := model prog w)
  have L1 := looks_findIn (M := model prog w) X hga
  have L2 := looks_findIn (M := model prog w) X hgm
  have L3 := looks_find (M := model prog w) X I hf
  have hsub : Looks (model prog w) hh (isSubtype (.ref C) (.type "BaseException")) true := by
    refine looks_mroIn X ?_
    unfold mroIn
    rw [hcd, Option.bind_some, hmro, if_neg (by simp)]
    simp [tailX]
  have f3 := PySem.F.attr_ValueError.ga.bind (.ref x)
  have hx0 : (expr && onTheHeap (Value.builtin "BaseException.__getattribute__")) = false := by cases expr <;> rfl
  have hx2 : (Value.builtin "BaseException.__getattribute__" == Value.builtin "object.__getattribute__") = false := by decide +kernel
  have hx1 : (onTheHeap (Value.ref C) && Value.builtin "BaseException.__getattribute__" == Value.builtin "object.__getattribute__") = false := by rw [hx2]; rfl
  unfold getAttr getAttrBy
  refine wpAny_bind (wpAny_mkText (wpAny_holding (wpAny_bind (L0.at (wpAny_bind (L1.at ?_))))))
  dsimp only
  refine bm_if_false hx1 ?_
  repeat (any_goals (first | assumption | with_reducible refine L2.at ?_ | with_reducible refine L0.at ?_ | with_reducible refine L1.at ?_ | wp_step))
  have hk : builtinKind "BaseException.__getattribute__" = some .slot := by decide +kernel
  have hsplit : splitId "BaseException.__getattribute__" = some ("BaseException", "__getattribute__") := by decide +kernel
  refine codeAny_call_builtin PySem.F.attr_ValueError.ga.plain PySem.F.entry_bexc_ga (@check_slot (model prog w) _ _ ⟨hh, g, d9, t + 1, os⟩ "BaseException.__getattribute__" "BaseException" "__getattribute__" (.ref x) [.str name t] [] _ hk hsplit (L0.andThen hsub) (PySem.F.args_bexc_ga (.ref x) (.str name t)) ?_)
  show wpAny _ _ (Builtin.«object.__getattribute__» ⟨[.ref x, .str name t], []⟩) _ _ _
  refine wpAny_bind (wpAny_of_eq (a := (Value.ref x, [Value.str name t])) rfl ?_)
  dsimp only
  refine wpAny_bind (wpAny_of_eq (a := name) rfl ?_)
  refine wpAny_bind (L0.at (wpAny_bind (L3.at ?_)))
  refine wpAny_pure ?_
  dsimp only
  show wpAny _ _ (handedOut v) _ _ _
  rw [handedOut_of hv]; exact wpAny_pure h
theorem bytes_attrs : PlainAttrs "bytes" :=
  ⟨⟨"bytes.__getattribute__", by rw [typeLookup_type, builtinLookup_eq_fast]; kernel_rfl, by decide +kernel⟩, by rw [typeLookup_type, builtinLookup_eq_fast]; kernel_rfl⟩
theorem type_join : typeOf (.builtin "bytes.join") = pure (.type "method_descriptor") := by show builtinType _ = _; rw [builtinType_eq_fast]; kernel_rfl
theorem getMethod_join {M : Model} {b : Array UInt8} {t : Tok} {pl : Sem Bool} {Q : Value × List Value → Shared → Prop} (h : Q (.builtin "bytes.join", [.bytes b t]) s) : wpAny M A (getMethod (.bytes b t) "join" pl) Q E s :=
  getMethod_builtin (T := "bytes") (typeIs_bytes _ _ _) bytes_attrs BJ.slot type_join (fun a e => by cases e) h
end
end
section
open Sem (wp)
section
variable {prog : Program} {w : World} {E : Value → Shared → Prop} {s : Shared} {Q : Value → Shared → Prop}
/-- the law's own def entered from the caller, with cells -/
theorem def_TopC {o : Obj} {mg mb : Str → Option Value} {p : Program} {loose : List Str} {mean : ExcName → Option Value}
    {name qual : Str} {params : Arguments} {body : List Stmt} {scope : Scope} {dV kV doc pm cdv ct : Value} {an : Option Addr} {f : Addr} {args : List Value} {binds : List (Str × Value)}
    (T : Top p loose mean mg mb s.heap) (ho : s.heap.get? f = some o) (hd : o.data = .func (fnOf name qual params body scope dV kV doc pm an cdv ct)) (hcd : s.heap.CodeRec cdv qual)
    (hbind : BindsTo s (fnOf name qual params body scope dV kV doc pm an cdv ct) ⟨args, []⟩ binds)
    (hkind : ∀ n, ∀ x ∈ binds, scope.names.lookup x.1 = some .local ∨ (scope.names.lookup x.1 = some .cell ∧ ((cellsFrom n scope.names []).lookup x.1).isSome = true))
    (hnd : ((cellsFrom 0 scope.names []).map (·.1)).Nodup)
    (h : ∀ L' h₁ tk cells, Fr s.heap L' h₁ (bindL (envOfC qual scope L' f cdv).kindOf binds fun _ => none) → News s.heap L' h₁ cells →
      CellsAre (bindC (envOfC qual scope L' f cdv).kindOf binds fun _ => none) (cellsFrom (L' + 1) scope.names []) cells →
      wpC (model prog w) (callerA.deeper (envOfC qual scope L' f cdv)) (execs body (envOfC qual scope L' f cdv))
        (fun fl s' => Q (match fl with | .ret v => v | _ => .none) s')
        (fun _ _ => False)
        { s with heap := h₁, toks := tk })
    (hco : scope.isCoroutine = false) (hgen : scope.isGenerator = false) (hk : scope.kind = .function) : wpC (model prog w) callerA (call (.ref f) args) Q E s := by
  refine wpC_call ?_
  refine codeC_call_function (fd := fnOf name qual params body scope dV kV doc pm an cdv ct) (body := body) (by decide) ho hd hco hgen rfl hcd (hbind _ _ _ _ ?_)
  refine wpAny_newFunctionEnv_cells hk (hkind _) fun env' he s' x => ?_
  subst he
  refine ⟨T.nolimit.keeps x.toInCall.keep, codeC_func ?_⟩
  obtain ⟨h₁, tk, rfl, _⟩ := x.done
  have hk₁ := x.toInCall.keep
  obtain ⟨cells, NC, Y⟩ := Cl.news (h₀ := s.heap) (Nat.le_refl _) fun n c hm => ⟨x.cell n c (lookup_of_mem_nodup (cellsFrom_names scope.names 0 (s.heap.objs.size + 1) [] [] rfl ▸ hnd) hm), x.above n c hm⟩
  refine wpC_mono (h s.heap.objs.size h₁ tk cells ⟨x.toInCall.ns, fun b o e => hk₁ b o e, Nat.le_refl _⟩ (fun p hp => NC p hp) Y) (fun fl s' hl => hl) fun _ _ y => y.elim
end
end
section
section
variable {M : Model} {A : Around} {E : Value → Shared → Prop} {s : Shared} {env : Env}
/-- a, b = x, y where a target is a cell: stored one by one -/
theorem exec_AssignTup_C {elts : List Expr} {k : Nat} {tpos : Pos} {value : Expr} {pos : Pos} {Q : Flow → Shared → Prop}
    (h : wpC M A (eval value env) (fun v s₁ => wpAny M A (assign (.Tuple elts k tpos) env v) (fun _ => Q .next) E s₁) E s)
    (hw : swappedStores [.Tuple elts k tpos] value env = pure none := by rfl)
    (hs : swapsWithSole [.Tuple elts k tpos] value pos.line env = pure false := by rfl) :
    wpC M A (exec (.Assign [.Tuple elts k tpos] value pos) env) Q E s := by
  refine exec_Assign_C (wpC_mono h (fun v s₁ h₁ => ?_) fun _ _ x => x) hs
  rw [hw]
  refine wpAny_pure ?_
  show wpAny M A (do assignAll v [assign (.Tuple elts k tpos) env]; pure .next) Q E s₁
  exact wpAny_bind (wpAny_mono h₁ (fun _ _ x => wpAny_pure x) fun _ _ x => x)
/-- x and y, in this logic -/
theorem eval_And2_C {x y : Expr} {pos : Pos} {Q : Value → Shared → Prop}
    (h : wpC M A (eval x env) (fun v s₁ => wpAny M A (truthy v) (fun b s₂ => (b = false → Q v s₂) ∧ (b = true → wpC M A (eval y env) Q E s₂)) E s₁) E s) :
    wpC M A (eval (.BoolOp .And [x, y] pos) env) Q E s := by
  have e : eval (.BoolOp .And [x, y] pos) env = (do
      let v ← eval x env
      standAt pos
      let t ← holding [v] (truthy v)
      match BoolOp.And, t with
      | .And, false | .Or, true => pure v
      | _, _ => eval y env) := rfl
  rw [e]
  refine wpC_bind (wpC_mono h (fun v s₁ h₁ => wpC_bind (wpC_standAt (wpC_bindA (wpAny_holding (wpAny_mono h₁ (fun b s₂ h₂ => ?_) fun _ _ x => x))))) fun _ _ x => x)
  cases b
  · exact wpC_pure (h₂.1 rfl)
  · exact h₂.2 rfl
/-- the truth of a call -/
theorem isTrue_Call_C {f : Expr} {args : List Expr} {kws : List Keyword} {pos : Pos} {t : Sem Value} {Q : Bool → Shared → Prop}
    (h : wpC M A t (fun v s₁ => wpAny M A (truthy v) Q E s₁) E s) : wpC M A (isTrue (.Call f args kws pos) env t) Q E s := by
  have e : isTrue (.Call f args kws pos) env t = (do let v ← t; standAt (Expr.Call f args kws pos).pos; holding [v] (truthy v)) := rfl
  rw [e]
  exact wpC_bind (wpC_mono h (fun v s₁ h₁ => wpC_bind (wpC_standAt (wpC_holding (wpC_any h₁)))) fun _ _ x => x)
end
section
variable {w : World} {A : Around} {s : Shared}
/-- the law's own reader called, the lots' objects last -/
theorem use_lots0 {b : Array UInt8} {tb : Tok} {l : List (Addr × Obj)} (hb : b.size ≤ 100000)
    {A A₀ : Around} {base h₀ : Heap} {outer : List Env} {L : Addr} {m mg mb : Str → Option Value} {env : Env} {p : Program} {loose : List Str} {mean : ExcName → Option Value} {s : Shared} {Q E : Value → Shared → Prop}
    (F : Fr h₀ L s.heap m) (N : News h₀ L s.heap l) (nd : (l.map (·.1)).Nodup) (B : Below A₀ base outer h₀) (X : (Mine0.hd.heap_1 w.params).In h₀) (T : Top p loose mean mg mb h₀)
    (hA : A.frames = some outer) (hf : env.frame = some L) (hk : env.scope.kind = .function) (hh : A.handled = none) (hd : A.depth + 1 + 10 < recursionLimit) (hu : A.units + 3 + 8 * 10 < cLine)
    (h0 : lotsL b.toList = none → ∀ h' tk', Fr h₀ L h' m → News h₀ L h' l → Q .none { s with heap := h', toks := tk' })
    (h1 : ∀ ls r D f vs cap os x h' tk', lotsL b.toList = some (ls, r) → LotObjs ls vs os → ((r = none ∧ x = .none) ∨ ∃ r' t, r = some r' ∧ x = .int ((b.toList.length : Int) - r'.length) t) → Fr h₀ L h' m →
      News h₀ L h' ((D, tupOf [.ref f, x]) :: (f, W.listOf vs.toArray cap) :: (l ++ os)) → (((D, tupOf [.ref f, x]) :: (f, W.listOf vs.toArray cap) :: (l ++ os)).map (·.1)).Nodup → Q (.ref D) { s with heap := h', toks := tk' }) :
    wpC (model PySem.Challenge.rw_nt0489_01.row.prog w) (A.deeper env) (call (.ref 232) [.bytes b tb]) Q E s := by
  refine use_lots (l₁ := l) (l₂ := []) hb F (by rw [List.append_nil]; exact N) (by rw [List.append_nil]; exact nd) B X T hA hf hk hh hd hu ?_ ?_
  · intro e h' tk' F' N'
    rw [List.append_nil] at N'
    exact h0 e h' tk' F' N'
  · intro ls r D f vs cap os x h' tk' a1 a2 a3 a4 a5 a6
    rw [List.append_nil] at a5 a6
    exact h1 ls r D f vs cap os x h' tk' a1 a2 a3 a4 a5 a6
end
end
local macro_rules | `(tactic| walk_at "call type:bytes") => `(tactic| (k_here; (with_reducible show wpAny _ _ (call (Value.type "bytes") [Value.bytes _ _]) _ _ _); (refine bytes_bytes ?_)))
section
theorem begins_L7 : True := by
  w_top off
  exact trivial
open Sem (wp)
local macro_rules | `(tactic| walk_at "eval ListComp") => `(tactic| (k_here; k_dflt (refine' ListComp_A (cl := []) ?F ?_ ?c1 ?c2 ?c3 ?c4 ?c5 ?c6; (case c6 => (intro _; exact rfl)); (case F => k_asm); (case c1 => exact rfl); (case c2 => decide); (case c3 => exact rfl); (case c4 => decide); (case c5 => exact rfl))))
local macro_rules | `(tactic| walk_at "call builtin:bytes.join") => `(tactic| (k_here; (with_reducible show wpAny _ _ (call (Value.builtin "bytes.join") [Value.bytes _ _, Value.ref _]) _ _ _); k_dflt (refine' join_by (News.isList (by k_asm) (by k_mem)) ?bb ?zz ?_; (case bb => assumption); (case zz => assumption)); intro t9 k9))
local macro_rules | `(tactic| walk_at "getMethod bytes") => `(tactic| (k_here; (with_reducible show wpAny _ _ (getMethod (Value.bytes _ _) (Str.ofString "join") _) _ _ _); (refine getMethod_join ?_)))
theorem BytesAre.snoc {vs : List Value} {bs : List (List UInt8)} {p : List UInt8} {t : Tok} (h : BytesAre vs bs) : BytesAre (vs ++ [.bytes p.toArray t]) (bs ++ [p]) := by
  refine ⟨by simp [h.1], fun i v hi => ?_⟩
  rcases Nat.lt_trichotomy i vs.length with q | q | q
  · rw [List.getElem?_append_left q] at hi
    obtain ⟨p', t', h1, h2⟩ := h.2 i v hi
    exact ⟨p', t', by rw [List.getElem?_append_left (by rw [← h.1]; exact q)]; exact h1, h2⟩
  · subst q
    rw [List.getElem?_append_right (Nat.le_refl _), Nat.sub_self] at hi
    exact ⟨p, t, by rw [h.1, List.getElem?_append_right (Nat.le_refl _), Nat.sub_self]; rfl, (Option.some.inj hi).symm⟩
  · rw [List.getElem?_eq_none (by simp; lia)] at hi
    cases hi
theorem picked_tail {b : Array UInt8} {r' : List UInt8} (h : r' <:+ b.toList) : KBy.picked b (some ((b.toList.length : Int) - r'.length)) none = r'.toArray := by
  obtain ⟨pre, h⟩ := h
  have e1 : ((b.toList.length : Int) - r'.length) = ((pre.length : Nat) : Int) := by rw [← h]; simp
  rw [e1, KBc.picked_eq]
  simp only [Option.elim, clipAt_nat]
  have e2 : b.size = pre.length + r'.length := by rw [← Array.length_toList, ← h]; simp
  rw [← h, e2, Nat.min_eq_left (Nat.le_add_right _ _)]
  simp
theorem restM {α : Type} {x1 x2 x3 x4 x5 x6 x7 x8 : α} {y : α} {os rest : List α} (hy : y ∈ [x5, x6] ++ rest) : y ∈ x1 :: x2 :: x3 :: x4 :: x5 :: x6 :: x7 :: x8 :: (os ++ rest) := by
  simp only [List.cons_append, List.nil_append, List.mem_cons, List.mem_append] at hy ⊢
  rcases hy with h | h | h <;> simp only [h, true_or, or_true]
theorem perm31 {α : Type} {a b c d : α} {l : List α} : List.Perm (a :: b :: c :: d :: l) (d :: a :: b :: c :: l) := (List.perm_append_comm (l₁ := [a, b, c]) (l₂ := [d])).append_right l
theorem read_right (w : World) {d c : Addr} {t tb : Tok} {o : Obj} {vs : List Value} {ns : List Int} {cap : Nat} {at_ : Int} {b : Array UInt8} (hC : Cells vs ns) (hd0 : DeckO w c at_ t o) (lo : (d == sysModules) = false) (ha : 0 ≤ at_) (ha' : at_ ≤ 900) (hb : b.size ≤ 10000) :
    CtrB w 40 247 [.ref d, .bytes b tb] [(d, o), (c, W.listOf vs.toArray cap)]
      (fun v l' => v = .bool true ∧ ∃ t' o', DeckO w c (at_ + 2) t' o' ∧ l' = [(d, o'), (c, W.listOf vs.toArray cap)]) := by
  intro A A₀ h₀ outer L m mg mb env p loose mean rest s R B F X₀ LD T hA hf hke hh hd hu ret
  obtain ⟨N, nd⟩ := LD
  simp only [List.cons_append, List.nil_append] at N nd
  revert X₀; k_fill; intro X₀
  refine' def_S (binds := [(Str.ofString "deck", .ref d), (Str.ofString "octets", .bytes b tb)]) B F X₀ N T hA hf hke ?k6 ?k7 ?k8 ?k9 ?kB ?_ ?c2 ?c3 ?c4 ?c5
  (( (case k6 => k_is); (case k7 => k_is); (case k8 => walk_at "om"); (case k9 => first | exact BindsTo.of_eq rfl | exact binds_K (by k_in) rfl (by k_is) rfl rfl rfl | fail "enter: no rule for these arguments"); (case c5 => decide); (case kB => exact locs rfl); (case c2 => exact rfl); (case c3 => exact rfl); (case c4 => exact rfl)))
  intro g' L' h' S F' N' l1
  have B' := S.below
  have X' := S.kin
  have T' := S.top
  clear F N
  (repeat' (first | (k_unfold; (try dsimp only)) | (first | (with_reducible first | ((show (_ : Flow → Shared → Prop) _ _); rename Flow → Shared → Prop => K9; rename KR K9 _ => kr9; rename KN K9 _ => kn9; (first | refine kn9 _ ?_ | refine kr9.ret _ _ ?_ | refine kr9.brk _ ?_ | refine kr9.cont _ ?_); clear kn9 kr9 K9; (try dsimp only)) | ((show (_ : Flow → Shared → Prop) _ _); (first | refine kn_go (by assumption) ?_ | refine kr_go (by assumption) ?_); (try dsimp only)) | ((show (_ : Bool → Shared → Prop) _ _); rename Bool → Shared → Prop => K9; rename KT K9 _ => kb9; refine kb9 _ _ ?_; clear kb9 K9; (try dsimp only)))) | ((with_reducible show wpC _ _ _ _ _ _); (first | ((with_reducible show wpC _ _ (exec (Stmt.Assign [Expr.Tuple _ _ _] (Expr.Tuple _ _ _) _) _) _ _ _); (first | (refine exec_AssignSwap_C ?_) | (refine wpC_any ?_))) | (((with_reducible show wpC _ _ (eval (Expr.Tuple _ _ _) _) _ _ _); refine eval_Tuple_C ?_)) | (((with_reducible show wpC _ _ (ite (false = true) _ _) _ _ _); refine wpC_ite_f Bool.false_ne_true ?_)) | (((with_reducible show wpC _ _ (spliced _) _ _ _); show wpC _ _ (spliced ((false, _) :: _)) _ _ _; refine spliced_cons_C ?_)) | (((with_reducible show wpC _ _ (execs (_ :: _) _) _ _ _); refine execs_cons_G ?_; intro _ _ _)) | (((with_reducible show wpC _ _ (eval (Expr.Call (Expr.Name _ _) _ _ _) _) _ _ _); refine eval_CallName_C ?_)) | (((with_reducible show wpC _ _ (callWith _ (Value.ref _) _ _ _) _ _ _); first | (refine' callWith_CK0 ?zqk1 ?zqk2 ?_; (case zqk1 => k_in); (case zqk2 => k_is)) | (refine' callWith_CK ?zqk1 ?zqk2 ?_; (case zqk1 => k_asm); (case zqk2 => k_is)))))) | (dsimp only; (with_reducible show wpC _ _ _ _ _ _)) | ((fail_if_success (with_reducible show wpC _ _ _ _ _ _)); (first | walk1 | (dsimp only; walk1)))))
  refine use_lots (l₁ := [(d, o), (c, W.listOf vs.toArray cap)]) (l₂ := rest) (by walk_at "om") F' N' nd B' X' T' (by k_asm) rfl rfl hh (by (first | exact room2 (by assumption) (by decide) | exact room3 (by assumption) (by decide) | walk_at "om")) (by (first | exact room2 (by assumption) (by decide) | exact room3 (by assumption) (by decide) | walk_at "om")) ?none ?some
  case none =>
    intro hn h1 tk1 F1 N1
    simp only [List.cons_append, List.nil_append] at N1
    clear F' N'
    (repeat' (first | (k_unfold; (try dsimp only)) | (first | (with_reducible first | ((show (_ : Flow → Shared → Prop) _ _); rename Flow → Shared → Prop => K9; rename KR K9 _ => kr9; rename KN K9 _ => kn9; (first | refine kn9 _ ?_ | refine kr9.ret _ _ ?_ | refine kr9.brk _ ?_ | refine kr9.cont _ ?_); clear kn9 kr9 K9; (try dsimp only)) | ((show (_ : Flow → Shared → Prop) _ _); (first | refine kn_go (by assumption) ?_ | refine kr_go (by assumption) ?_); (try dsimp only)) | ((show (_ : Bool → Shared → Prop) _ _); rename Bool → Shared → Prop => K9; rename KT K9 _ => kb9; refine kb9 _ _ ?_; clear kb9 K9; (try dsimp only)))) | ((with_reducible show wpC _ _ _ _ _ _); (first | ((with_reducible show wpC _ _ (exec (Stmt.Try _ _ _ _ _) _) _ _ _); (refine exec_Try_G ?_; intro _ _)) | ((with_reducible show wpC _ _ (call (Value.ref 134) _ _) _ _ _); (try dsimp only); (refine' use_makeD ?zqF ?zqN ?zqnd ?zqB ?zqX ?zqT ?zqA ?zqf ?zqk ?zqh ?zqd ?zqu ?_; (case zqF => k_asm); (case zqN => k_asm); (case zqnd => (first | assumption | (refine nodup_join ?zqna ?zqnb ?zqnc; (case zqna => (simp only [List.map_cons, List.map_nil]; first | (simp only [List.nodup_cons, List.not_mem_nil, not_false_eq_true, List.nodup_nil, and_self]; done) | (refine nd2 ?_ <;> k_ne) | (refine nd3 ?_ ?_ ?_ <;> k_ne) | (refine nd4 ?_ ?_ ?_ ?_ ?_ ?_ <;> k_ne))); (case zqnb => (simp only [List.map_cons, List.map_nil]; walk_at "off")); (case zqnc => assumption)) | fail "nodup")); (case zqB => k_asm); (case zqX => k_asm); (case zqT => k_asm); (case zqA => k_asm); (case zqf => exact rfl); (case zqk => exact rfl); (case zqh => assumption); (case zqd => (first | exact room2 (by assumption) (by decide) | exact room3 (by assumption) (by decide) | walk_at "om")); (case zqu => (first | exact room2 (by assumption) (by decide) | exact room3 (by assumption) (by decide) | walk_at "om"))); intro _ _ _ _ _ _ _ _ _ _ _ _ _ _; (try k_sweep); dsimp only) | (((with_reducible show wpC _ _ (callWith _ (Value.type _) _ (backTo _ (starEach (_ :: _) _)) _) _ _ _); refine callWith_CT ?_)) | (((with_reducible show wpC _ _ (callWith _ (Value.ref _) _ (backTo _ (starEach [] _)) _) _ _ _); (refine' callWith_CK0 ?zqk1 ?zqk2 ?_; (case zqk1 => k_in); (case zqk2 => k_is)))) | (((with_reducible show wpC _ _ (eval (Expr.Constant _ _ _) _) _ _ _); refine wpC_any ?_)) | (((with_reducible show wpC _ _ (ite (false = true) _ _) _ _ _); refine wpC_ite_f Bool.false_ne_true ?_)) | (((with_reducible show wpC _ _ (spliced _) _ _ _); show wpC _ _ (spliced ((false, _) :: _)) _ _ _; refine spliced_cons_C ?_)) | (((with_reducible show wpC _ _ (spliced _) _ _ _); show wpC _ _ (spliced []) _ _ _; refine spliced_nil_C ?_)) | (((with_reducible show wpC _ _ (execs (_ :: _) _) _ _ _); refine execs_cons_G ?_; intro _ _ _)) | (((with_reducible show wpC _ _ (exec (Stmt.Assign [Expr.Name _ _] (Expr.Call _ _ _ _) _) _) _ _ _); refine exec_AssignName_C ?_)) | (((with_reducible show wpC _ _ (eval (Expr.Call (Expr.Name _ _) _ _ _) _) _ _ _); refine eval_CallName_C ?_)) | (((with_reducible show wpC _ _ (callWith _ (Value.ref _) _ _ _) _ _ _); first | (refine' callWith_CK0 ?zqk1 ?zqk2 ?_; (case zqk1 => k_in); (case zqk2 => k_is)) | (refine' callWith_CK ?zqk1 ?zqk2 ?_; (case zqk1 => k_asm); (case zqk2 => k_is)))))) | (dsimp only; (with_reducible show wpC _ _ _ _ _ _)) | ((fail_if_success (with_reducible show wpC _ _ _ _ _ _)); (first | walk1 | (dsimp only; walk1)))))
    rename_i x9 h5 tk5 dx ob q1 nd3 e2 e1 n1 n2 n3 D9 h4 l9 h3 h2 h6 h0 F3 N3 _ _ _ _ _ _ _ _
    have N4 := drop1 N3
    clear N3
    have hcut : (decRun b).done = false ∧ (0 < (decRun b).plain ∨ 0 < (decRun b).many) := (dec_lots b.toList.length b.toList (Nat.le_refl _) #[]).1 hn
    refine use_ctrXA (decoded w (by walk_at "om")) F3 N4 nd3 B' X' T' (by k_asm) rfl rfl hh (by (first | exact room2 (by assumption) (by decide) | exact room3 (by assumption) (by decide) | walk_at "om")) (by (first | exact room2 (by assumption) (by decide) | exact room3 (by assumption) (by decide) | walk_at "om")) ?hx ?main
    case main =>
      intro v h' tk' l' _ _ _ hp
      obtain ⟨hp, _⟩ := hp
      exfalso
      rcases hp with hp | ⟨hp, hp2⟩
      · exact absurd (hcut.1.symm.trans hp) (by decide)
      · rcases hcut.2 with q | q <;> exact absurd q (by lia)
    case hx =>
      rintro e dd tt g7 h7 tk7 l7 R7 FG7 U7 nd7 fr7 ⟨-, k7, t7, rfl⟩
      rename KE _ _ => ke9
      refine ke9 _ _ ?_
      refine catch_ps S X₀ T FG7 U7 R7 ⟨fr7.1, fun q hq => ?fr⟩ (by k_is) (by first | k_is | exact rfl) ?k
      case fr =>
        rcases List.mem_append.mp hq with hq | hq
        · exact fr7.2 q hq
        · exact ⟨(N4 q hq).2.2, (N4 q hq).2.1⟩
      case k =>
        intro g₂ vs2 h8 tk8 S₂ F8 N8
        refine wpAny_G ?_
        intro K9 kn9 kr9
        simp only [List.cons_append, List.nil_append] at N8
        clear N4 F3 B' X' T' R7 FG7 U7
        have B₂ := S₂.below
        have X₂ := S₂.kin
        have T₂ := S₂.top
        (repeat' (first | (k_unfold; (try dsimp only)) | (first | (with_reducible first | ((show (_ : Flow → Shared → Prop) _ _); rename Flow → Shared → Prop => K9; rename KR K9 _ => kr9; rename KN K9 _ => kn9; (first | refine kn9 _ ?_ | refine kr9.ret _ _ ?_ | refine kr9.brk _ ?_ | refine kr9.cont _ ?_); clear kn9 kr9 K9; (try dsimp only)) | ((show (_ : Flow → Shared → Prop) _ _); (first | refine kn_go (by assumption) ?_ | refine kr_go (by assumption) ?_); (try dsimp only)) | ((show (_ : Bool → Shared → Prop) _ _); rename Bool → Shared → Prop => K9; rename KT K9 _ => kb9; refine kb9 _ _ ?_; clear kb9 K9; (try dsimp only)))) | ((fail_if_success (with_reducible show wpC _ _ _ _ _ _)); (first | walk1 | (dsimp only; walk1)))))
        refine' get_exc (X₂.keeps F8.keep) (N8 _ (.head _)).1 (N8 (dd, _) (.tail _ (.head _))).1 ?ga ?gm ?gc (findObj_own (attr := none) ?hh ?ha ?hn ?hl) ?hv ?_
        case ga => k_is
        case gm => k_is
        case gc => first | k_is | exact rfl
        case hh => k_is
        case ha => k_is
        case hn => k_is
        case hl => exact rfl
        case hv => exact rfl
        (repeat' (first | (k_unfold; (try dsimp only)) | (first | (with_reducible first | ((show (_ : Flow → Shared → Prop) _ _); rename Flow → Shared → Prop => K9; rename KR K9 _ => kr9; rename KN K9 _ => kn9; (first | refine kn9 _ ?_ | refine kr9.ret _ _ ?_ | refine kr9.brk _ ?_ | refine kr9.cont _ ?_); clear kn9 kr9 K9; (try dsimp only)) | ((show (_ : Flow → Shared → Prop) _ _); (first | refine kn_go (by assumption) ?_ | refine kr_go (by assumption) ?_); (try dsimp only)) | ((show (_ : Bool → Shared → Prop) _ _); rename Bool → Shared → Prop => K9; rename KT K9 _ => kb9; refine kb9 _ _ ?_; clear kb9 K9; (try dsimp only)))) | ((fail_if_success (with_reducible show wpC _ _ _ _ _ _)); (first | walk1 | (dsimp only; walk1)))))
        rename News _ _ _ _ => N9
        rename Fr _ _ _ _ => F9
        have N10 := drop2 N9
        clear N9 F8
        (repeat' (first | (k_unfold; (try dsimp only)) | (first | (with_reducible first | ((show (_ : Flow → Shared → Prop) _ _); rename Flow → Shared → Prop => K9; rename KR K9 _ => kr9; rename KN K9 _ => kn9; (first | refine kn9 _ ?_ | refine kr9.ret _ _ ?_ | refine kr9.brk _ ?_ | refine kr9.cont _ ?_); clear kn9 kr9 K9; (try dsimp only)) | ((show (_ : Flow → Shared → Prop) _ _); (first | refine kn_go (by assumption) ?_ | refine kr_go (by assumption) ?_); (try dsimp only)) | ((show (_ : Bool → Shared → Prop) _ _); rename Bool → Shared → Prop => K9; rename KT K9 _ => kb9; refine kb9 _ _ ?_; clear kb9 K9; (try dsimp only)))) | ((with_reducible show wpC _ _ _ _ _ _); (first | ((with_reducible show wpC _ _ (exec (Stmt.Assign [Expr.Tuple _ _ _] (Expr.Tuple _ _ _) _) _) _ _ _); (first | (refine exec_AssignSwap_C ?_) | (refine wpC_any ?_))) | ((with_reducible show wpC _ _ (exec (Stmt.Try _ _ _ _ _) _) _ _ _); (refine exec_Try_G ?_; intro _ _)) | ((with_reducible show wpC _ _ (exec (Stmt.For _ _ _ _ _) _) _ _ _); (refine exec_For_G ?_)) | (((with_reducible show wpC _ _ (execs (_ :: _) _) _ _ _); refine execs_cons_G ?_; intro _ _ _)) | (((with_reducible show wpC _ _ (execs [] _) _ _ _); refine execs_nil_C ?_)) | (((with_reducible show wpC _ _ (exec (Stmt.If _ _ _ _) _) _ _ _); refine exec_If_G ?_; intro _ _)) | (((with_reducible show wpC _ _ (eval (Expr.Call (Expr.Name _ _) _ _ _) _) _ _ _); refine eval_CallName_C ?_)) | (((with_reducible show wpC _ _ (callWith _ (Value.ref _) _ _ _) _ _ _); first | (refine' callWith_CK0 ?zqk1 ?zqk2 ?_; (case zqk1 => k_in); (case zqk2 => k_is)) | (refine' callWith_CK ?zqk1 ?zqk2 ?_; (case zqk1 => k_asm); (case zqk2 => k_is)))))) | (dsimp only; (with_reducible show wpC _ _ _ _ _ _)) | ((fail_if_success (with_reducible show wpC _ _ _ _ _ _)); (first | walk1 | (dsimp only; walk1)))))
        rename News _ _ _ _ => N11
        rename Fr _ _ _ _ => F11
        have N12 := drop1 N11
        clear N11
        have pp := (List.perm_append_comm (l₁ := [(x9, instObj 134 dx), (dx, decD w.params q1 false #[] ob 0 0), (ob, baObj #[])]) (l₂ := [(d, o), (c, W.listOf vs.toArray cap)])).append_right rest
        refine use_ctr2 (pieces w hC hd0 lo ha ha' (by walk_at "om")) F11 (news_perm pp N12) (nodup_perm pp nd3) B₂ X₂ T₂ (by k_asm) rfl rfl hh (by (first | exact room2 (by assumption) (by decide) | exact room3 (by assumption) (by decide) | walk_at "om")) (by (first | exact room2 (by assumption) (by decide) | exact room3 (by assumption) (by decide) | walk_at "om")) ?_
        rintro v12 h12 tk12 l12 F12 N13 nd13 ⟨r, p1, p2, p3, t1, t2, t3, t4, o', cap', rfl, hp3, hd1, rfl⟩
        have pp := (List.perm_append_comm (l₁ := [(r, W.listOf #[.bytes p1 t1, .bytes p2 t2, .bytes p3 t3] cap'), (d, o'), (c, W.listOf vs.toArray cap)]) (l₂ := [(x9, instObj 134 dx), (dx, decD w.params q1 false #[] ob 0 0), (ob, baObj #[])])).append_right rest
        have N14 := news_perm pp N13
        have nd14 := nodup_perm pp nd13
        clear N12 N13 nd13
        refine for_list_C (m := _) (news := _) (its := #[.bytes p1 t1, .bytes p2 t2, .bytes p3 t3]) (fun i m₁ nw => ∃ l3 tf, DecAt w.params x9 ⟨(Dec.run ⟨false, #[], #[], 0, 0⟩ (pre3 p1 p2 p3 i)).done, (Dec.run ⟨false, #[], #[], 0, 0⟩ (pre3 p1 p2 p3 i)).left, #[], (Dec.run ⟨false, #[], #[], 0, 0⟩ (pre3 p1 p2 p3 i)).plain, (Dec.run ⟨false, #[], #[], 0, 0⟩ (pre3 p1 p2 p3 i)).many⟩ l3 ∧
            nw = l3 ++ ((r, W.listOf #[.bytes p1 t1, .bytes p2 t2, .bytes p3 t3] cap') :: (d, o') :: (c, W.listOf vs.toArray cap) :: rest) ∧
            m₁ (Str.ofString "found") = some (.bytes (Dec.run ⟨false, #[], #[], 0, 0⟩ (pre3 p1 p2 p3 i)).out tf) ∧ m₁ (Str.ofString "is_cut") = some (.bool false) ∧ m₁ (Str.ofString "due") = some .none ∧ m₁ (Str.ofString "coder") = some (.ref x9)) hh ?hgo F12 N14 nd14 ?hS ?hJ ?step ?done
        case hJ =>
          exact ⟨[(x9, instObj 134 dx), (dx, decD w.params q1 false #[] ob 0 0), (ob, baObj #[])], _, decAt_of, rfl, rfl, rfl, rfl, rfl⟩
        case hgo =>
          intro I i v s' Q _ q
          exact wpAny_pure q
        case hS =>
          rintro i mm nw ⟨l3, tf, ⟨_, _, ⟨_, _, _, _, _, _, _, _⟩, rfl⟩, rfl, _⟩
          exact .inr ⟨_, List.mem_append_right _ (.head _), rfl, _, rfl⟩
        case step =>
          rintro i v I m₁ nw h tk oI hi hv ⟨l3, tf, ⟨dx2, o2, z1, rfl⟩, rfl, m1, m2, m3, m4⟩ F15 N15 nd15
          obtain ⟨p9, t9, rfl, e9, z9, z10⟩ := pre3_step hp3 hv
          simp only [List.cons_append, List.nil_append] at N15 nd15
          (repeat' (first | (k_unfold; (try dsimp only)) | (first | (with_reducible first | ((show (_ : Flow → Shared → Prop) _ _); rename Flow → Shared → Prop => K9; rename KR K9 _ => kr9; rename KN K9 _ => kn9; (first | refine kn9 _ ?_ | refine kr9.ret _ _ ?_ | refine kr9.brk _ ?_ | refine kr9.cont _ ?_); clear kn9 kr9 K9; (try dsimp only)) | ((show (_ : Flow → Shared → Prop) _ _); (first | refine kn_go (by assumption) ?_ | refine kr_go (by assumption) ?_); (try dsimp only)) | ((show (_ : Bool → Shared → Prop) _ _); rename Bool → Shared → Prop => K9; rename KT K9 _ => kb9; refine kb9 _ _ ?_; clear kb9 K9; (try dsimp only)))) | ((with_reducible show wpC _ _ _ _ _ _); (first | ((with_reducible show wpC _ _ (exec (Stmt.Assign [Expr.Name _ _] (Expr.BinOp _ _ _ _) _) _) _ _ _); (refine exec_AssignName_C ?_)) | (((with_reducible show wpC _ _ (callWith _ (Value.type _) _ (backTo _ (starEach (_ :: _) _)) _) _ _ _); refine callWith_CT ?_)) | (((with_reducible show wpC _ _ (eval (Expr.BinOp _ _ _ _) _) _ _ _); refine eval_BinOp_C ?_)) | (((with_reducible show wpC _ _ (eval (Expr.Name _ _) _) _ _ _); refine wpC_any ?_)) | (((with_reducible show wpC _ _ (ite (false = true) _ _) _ _ _); refine wpC_ite_f Bool.false_ne_true ?_)) | (((with_reducible show wpC _ _ (spliced _) _ _ _); show wpC _ _ (spliced ((false, _) :: _)) _ _ _; refine spliced_cons_C ?_)) | (((with_reducible show wpC _ _ (execs (_ :: _) _) _ _ _); refine execs_cons_G ?_; intro _ _ _)) | (((with_reducible show wpC _ _ (eval (Expr.Call (Expr.Name _ _) _ _ _) _) _ _ _); refine eval_CallName_C ?_)) | (((with_reducible show wpC _ _ (eval (Expr.Call (Expr.Attribute _ _ _) _ _ _) _) _ _ _); refine eval_CallMeth_C ?_)) | (((with_reducible show wpC _ _ (callWith _ (Value.ref _) _ _ _) _ _ _); first | (refine' callWith_CK0 ?zqk1 ?zqk2 ?_; (case zqk1 => k_in); (case zqk2 => k_is)) | (refine' callWith_CK ?zqk1 ?zqk2 ?_; (case zqk1 => k_asm); (case zqk2 => k_is)))))) | (dsimp only; (with_reducible show wpC _ _ _ _ _ _)) | ((fail_if_success (with_reducible show wpC _ _ _ _ _ _)); (first | walk1 | (dsimp only; walk1)))))
          rename News _ _ _ _ => N16
          rename Fr _ _ _ _ => F16
          try clear N15
          try clear F15
          have hD1 : Dec.run ⟨false, #[], #[], 0, 0⟩ (pre3 p1 p2 p3 (i + 1)) = _ := (congrArg (Dec.run ⟨false, #[], #[], 0, 0⟩) e9).trans ((dec_append _ _ _).trans (feed_step _ _))
          have y9 := Dec.run_ok (st := ⟨false, #[], #[], 0, 0⟩) (l := pre3 p1 p2 p3 i) (by decide)
          generalize Dec.run ⟨false, #[], #[], 0, 0⟩ (pre3 p1 p2 p3 i) = DD at hD1 y9 m1 N16 nd15
          obtain ⟨y1, y2, y3⟩ := y9
          (try dsimp only [Array.size_empty] at y2 y3)
          (try simp only [List.size_toArray, List.length_nil] at y2 y3)
          have y8 := Dec.run_ok (st := ⟨DD.done, DD.left, #[], DD.plain, DD.many⟩) (l := p9.toList) y1
          obtain ⟨y4, y5, y6⟩ := y8
          (try dsimp only [Array.size_empty] at y5 y6)
          (try simp only [List.size_toArray, List.length_nil, Array.length_toList] at y5 y6)
          have pp := (List.perm_append_comm (l₁ := [(I, oI)]) (l₂ := [(x9, instObj 134 dx2), (dx2, decD w.params z1 DD.done DD.left o2 DD.plain DD.many), (o2, baObj #[])])).append_right ((r, W.listOf #[.bytes p1 t1, .bytes p2 t2, .bytes p3 t3] cap') :: (d, o') :: (c, W.listOf vs.toArray cap) :: rest)
          refine use_decB (dec_feedT w (by walk_at "om") (by (try simp only [List.size_toArray, List.length_nil, Array.size_empty]); walk_at "om") (by walk_at "om")) F16 (news_perm pp N16) (nodup_perm pp nd15) B₂ X₂ T₂ (by k_asm) rfl rfl hh (by (first | exact room2 (by assumption) (by decide) | exact room3 (by assumption) (by decide) | walk_at "om")) (by (first | exact room2 (by assumption) (by decide) | exact room3 (by assumption) (by decide) | walk_at "om")) ?_
          intro h17 tk17 dx3 o3 w1 t17 F17 N17 nd17 _ _ _ _ _
          try simp only [List.cons_append, List.nil_append] at N17
          try clear N16
          try clear F16
          dsimp only
          (repeat' (first | (k_unfold; (try dsimp only)) | (first | (with_reducible first | ((show (_ : Flow → Shared → Prop) _ _); rename Flow → Shared → Prop => K9; rename KR K9 _ => kr9; rename KN K9 _ => kn9; (first | refine kn9 _ ?_ | refine kr9.ret _ _ ?_ | refine kr9.brk _ ?_ | refine kr9.cont _ ?_); clear kn9 kr9 K9; (try dsimp only)) | ((show (_ : Flow → Shared → Prop) _ _); (first | refine kn_go (by assumption) ?_ | refine kr_go (by assumption) ?_); (try dsimp only)) | ((show (_ : Bool → Shared → Prop) _ _); rename Bool → Shared → Prop => K9; rename KT K9 _ => kb9; refine kb9 _ _ ?_; clear kb9 K9; (try dsimp only)))) | ((with_reducible show wpC _ _ _ _ _ _); (first | (((with_reducible show wpC _ _ (call (Value.type "bytes") _ _) _ _ _); refine wpC_any ?_)) | (((with_reducible show wpC _ _ (spliced _) _ _ _); show wpC _ _ (spliced []) _ _ _; refine spliced_nil_C ?_)) | (((with_reducible show wpC _ _ (execs [] _) _ _ _); refine execs_nil_C ?_)))) | (dsimp only; (with_reducible show wpC _ _ _ _ _ _)) | ((fail_if_success (with_reducible show wpC _ _ _ _ _ _)); (first | walk1 | (dsimp only; walk1)))))
          show TurnEnd _ _ _ _ _ _ _
          rename News _ _ _ _ => N18
          rename Fr _ _ _ _ => F18
          refine' ⟨_, _, _, _, rfl, F18, news_perm perm31 N18, nodup_perm perm31 nd17, [(x9, instObj 134 dx3), (dx3, _), (o3, baObj #[])], _, ?e1, rfl, ?e2, m2, m3, m4⟩
          case e1 =>
            rw [hD1]
            exact decAt_of
          case e2 =>
            rw [hD1]
            rfl
        case done =>
          rintro h20 tk20 m20 n20 ⟨l3, tf, ⟨dx2, o2, z1, rfl⟩, rfl, m1, m2, m3, m4⟩ F20 N20 nd20
          simp only [List.cons_append, List.nil_append] at N20 nd20
          have e20 : (#[Value.bytes p1 t1, .bytes p2 t2, .bytes p3 t3] : Array Value).size = 3 := rfl
          rw [e20, pre3_all p1 p2 p3 hp3] at m1
          rw [e20, pre3_all p1 p2 p3 hp3] at N20
          (repeat' (first | (k_unfold; (try dsimp only)) | (first | (with_reducible first | ((show (_ : Flow → Shared → Prop) _ _); rename Flow → Shared → Prop => K9; rename KR K9 _ => kr9; rename KN K9 _ => kn9; (first | refine kn9 _ ?_ | refine kr9.ret _ _ ?_ | refine kr9.brk _ ?_ | refine kr9.cont _ ?_); clear kn9 kr9 K9; (try dsimp only)) | ((show (_ : Flow → Shared → Prop) _ _); (first | refine kn_go (by assumption) ?_ | refine kr_go (by assumption) ?_); (try dsimp only)) | ((show (_ : Bool → Shared → Prop) _ _); rename Bool → Shared → Prop => K9; rename KT K9 _ => kb9; refine kb9 _ _ ?_; clear kb9 K9; (try dsimp only)))) | ((with_reducible show wpC _ _ _ _ _ _); (first | ((with_reducible show wpC _ _ (exec (Stmt.Assign [Expr.Name _ _] (Expr.BinOp _ _ _ _) _) _) _ _ _); (refine exec_AssignName_C ?_)) | (((with_reducible show wpC _ _ (callWith _ (Value.type _) _ (backTo _ (starEach (_ :: _) _)) _) _ _ _); refine callWith_CT ?_)) | (((with_reducible show wpC _ _ (callWith _ (Value.ref _) _ (backTo _ (starEach [] _)) _) _ _ _); (refine' callWith_CK0 ?zqk1 ?zqk2 ?_; (case zqk1 => k_in); (case zqk2 => k_is)))) | (((with_reducible show wpC _ _ (eval (Expr.BinOp _ _ _ _) _) _ _ _); refine eval_BinOp_C ?_)) | (((with_reducible show wpC _ _ (eval (Expr.Name _ _) _) _ _ _); refine wpC_any ?_)) | (((with_reducible show wpC _ _ (ite (false = true) _ _) _ _ _); refine wpC_ite_f Bool.false_ne_true ?_)) | (((with_reducible show wpC _ _ (spliced _) _ _ _); show wpC _ _ (spliced ((false, _) :: _)) _ _ _; refine spliced_cons_C ?_)) | (((with_reducible show wpC _ _ (execs (_ :: _) _) _ _ _); refine execs_cons_G ?_; intro _ _ _)) | (((with_reducible show wpC _ _ (exec _ _) _ _ _); refine wpC_any ?_)) | (((with_reducible show wpC _ _ (eval (Expr.Call (Expr.Name _ _) _ _ _) _) _ _ _); refine eval_CallName_C ?_)) | (((with_reducible show wpC _ _ (eval (Expr.Call (Expr.Attribute _ _ _) _ _ _) _) _ _ _); refine eval_CallMeth_C ?_)) | ((dsimp only)))) | (dsimp only; (with_reducible show wpC _ _ _ _ _ _)) | ((fail_if_success (with_reducible show wpC _ _ _ _ _ _)); (first | walk1 | (dsimp only; walk1)))))
          rename News _ _ _ _ => N21
          rename Fr _ _ _ _ => F21
          try clear N20
          try clear F20
          refine use_decXB (dec_finishT w (by (try simp only [List.size_toArray, List.length_nil, Array.size_empty]); walk_at "om")) F21 N21 nd20 B₂ X₂ T₂ (by k_asm) rfl rfl hh (by (first | exact room2 (by assumption) (by decide) | exact room3 (by assumption) (by decide) | walk_at "om")) (by (first | exact room2 (by assumption) (by decide) | exact room3 (by assumption) (by decide) | walk_at "om")) ?hx2 ?main2
          case main2 =>
            intro _ _ _ _ _ _ hp _ _ _ _ _ _ _ _
            exfalso
            rcases hp with hp | ⟨hp, hp2⟩
            · exact absurd (hcut.1.symm.trans hp) (by decide)
            · rcases hcut.2 with q | q
              · exact absurd hp (Int.not_le.mpr q)
              · exact absurd hp2 (Int.not_le.mpr q)
          case hx2 =>
            rintro e4 dd4 tt4 g9 h9 tk9 l4 R9 FG9 U9 nd9 fr9 ⟨-, k8, t8, rfl⟩
            rename KE _ _ => ke9
            refine ke9 _ _ ?_
            refine catch_ps S₂ X₀ T FG9 U9 R9 ⟨fr9.1, fun q hq => ?fr2⟩ (by k_is) (by first | k_is | exact rfl) ?k2
            case fr2 =>
              rcases List.mem_append.mp hq with hq | hq
              · exact fr9.2 q hq
              · have hq9 := List.mem_cons_of_mem (x9, instObj 134 dx2) (List.mem_cons_of_mem (dx2, decD w.params z1 (Dec.run ⟨false, #[], #[], 0, 0⟩ b.toList).done (Dec.run ⟨false, #[], #[], 0, 0⟩ b.toList).left o2 (Dec.run ⟨false, #[], #[], 0, 0⟩ b.toList).plain (Dec.run ⟨false, #[], #[], 0, 0⟩ b.toList).many) (List.mem_cons_of_mem (o2, baObj #[]) hq))
                exact ⟨(N21 q hq9).2.2, (N21 q hq9).2.1⟩
            case k2 =>
              intro g₃ vs3 h10 tk10 S₃ F10 N22
              refine wpAny_G ?_
              intro K9 kn9 kr9
              simp only [List.cons_append, List.nil_append] at N22
              clear N21 F21 R9 FG9 U9 B₂ X₂ T₂
              have B₃ := S₃.below
              have X₃ := S₃.kin
              have T₃ := S₃.top
              (repeat' (first | (k_unfold; (try dsimp only)) | (first | (with_reducible first | ((show (_ : Flow → Shared → Prop) _ _); rename Flow → Shared → Prop => K9; rename KR K9 _ => kr9; rename KN K9 _ => kn9; (first | refine kn9 _ ?_ | refine kr9.ret _ _ ?_ | refine kr9.brk _ ?_ | refine kr9.cont _ ?_); clear kn9 kr9 K9; (try dsimp only)) | ((show (_ : Flow → Shared → Prop) _ _); (first | refine kn_go (by assumption) ?_ | refine kr_go (by assumption) ?_); (try dsimp only)) | ((show (_ : Bool → Shared → Prop) _ _); rename Bool → Shared → Prop => K9; rename KT K9 _ => kb9; refine kb9 _ _ ?_; clear kb9 K9; (try dsimp only)))) | ((fail_if_success (with_reducible show wpC _ _ _ _ _ _)); (first | walk1 | (dsimp only; walk1)))))
              refine' get_exc (X₃.keeps F10.keep) (N22 _ (.head _)).1 (N22 (dd4, _) (.tail _ (.head _))).1 ?ga2 ?gm2 ?gc2 (findObj_own (attr := none) ?hh2 ?ha2 ?hn2 ?hl2) ?hv2 ?_
              case ga2 => k_is
              case gm2 => k_is
              case gc2 => first | k_is | exact rfl
              case hh2 => k_is
              case ha2 => k_is
              case hn2 => k_is
              case hl2 => exact rfl
              case hv2 => exact rfl
              (repeat' (first | (k_unfold; (try dsimp only)) | (first | (with_reducible first | ((show (_ : Flow → Shared → Prop) _ _); rename Flow → Shared → Prop => K9; rename KR K9 _ => kr9; rename KN K9 _ => kn9; (first | refine kn9 _ ?_ | refine kr9.ret _ _ ?_ | refine kr9.brk _ ?_ | refine kr9.cont _ ?_); clear kn9 kr9 K9; (try dsimp only)) | ((show (_ : Flow → Shared → Prop) _ _); (first | refine kn_go (by assumption) ?_ | refine kr_go (by assumption) ?_); (try dsimp only)) | ((show (_ : Bool → Shared → Prop) _ _); rename Bool → Shared → Prop => K9; rename KT K9 _ => kb9; refine kb9 _ _ ?_; clear kb9 K9; (try dsimp only)))) | ((fail_if_success (with_reducible show wpC _ _ _ _ _ _)); (first | walk1 | (dsimp only; walk1)))))
              (repeat' (first | (k_unfold; (try dsimp only)) | (first | (with_reducible first | ((show (_ : Flow → Shared → Prop) _ _); rename Flow → Shared → Prop => K9; rename KR K9 _ => kr9; rename KN K9 _ => kn9; (first | refine kn9 _ ?_ | refine kr9.ret _ _ ?_ | refine kr9.brk _ ?_ | refine kr9.cont _ ?_); clear kn9 kr9 K9; (try dsimp only)) | ((show (_ : Flow → Shared → Prop) _ _); (first | refine kn_go (by assumption) ?_ | refine kr_go (by assumption) ?_); (try dsimp only)) | ((show (_ : Bool → Shared → Prop) _ _); rename Bool → Shared → Prop => K9; rename KT K9 _ => kb9; refine kb9 _ _ ?_; clear kb9 K9; (try dsimp only)))) | ((with_reducible show wpC _ _ _ _ _ _); (first | (((with_reducible show wpC _ _ (execs (_ :: _) _) _ _ _); refine execs_cons_G ?_; intro _ _ _)) | (((with_reducible show wpC _ _ (exec (Stmt.If _ _ _ _) _) _ _ _); refine exec_If_G ?_; intro _ _)) | (((with_reducible show wpC _ _ (exec _ _) _ _ _); refine wpC_any ?_)))) | (dsimp only; (with_reducible show wpC _ _ _ _ _ _)) | ((fail_if_success (with_reducible show wpC _ _ _ _ _ _)); (first | walk1 | (dsimp only; walk1)))))
              rename News _ _ _ _ => N23
              rename Fr _ _ _ _ => F23
              obtain ⟨Fb, Nb⟩ := S₃.back F23 N23
              show R (.ok (.ret (.bool _))) _
              refine' ret (.bool _) _ _ [(d, o'), (c, W.listOf vs.toArray cap)] Fb (news_sub Nb ?r2) nd ⟨congrArg Value.bool ?r4, _, _, hd1, rfl⟩
              case r4 => decide
              case r2 =>
                intro y hy
                exact .tail _ (.tail _ (.tail _ hy))
  case some =>
    intro ls r D f vs1 cap1 os x h1 tk1 hl hlo hr F1 N1 nd1
    simp only [List.cons_append, List.nil_append] at N1 nd1
    clear F' N'
    (repeat' (first | (k_unfold; (try dsimp only)) | (first | (with_reducible first | ((show (_ : Flow → Shared → Prop) _ _); rename Flow → Shared → Prop => K9; rename KR K9 _ => kr9; rename KN K9 _ => kn9; (first | refine kn9 _ ?_ | refine kr9.ret _ _ ?_ | refine kr9.brk _ ?_ | refine kr9.cont _ ?_); clear kn9 kr9 K9; (try dsimp only)) | ((show (_ : Flow → Shared → Prop) _ _); (first | refine kn_go (by assumption) ?_ | refine kr_go (by assumption) ?_); (try dsimp only)) | ((show (_ : Bool → Shared → Prop) _ _); rename Bool → Shared → Prop => K9; rename KT K9 _ => kb9; refine kb9 _ _ ?_; clear kb9 K9; (try dsimp only)))) | ((with_reducible show wpC _ _ _ _ _ _); (first | ((with_reducible show wpC _ _ (exec (Stmt.Try _ _ _ _ _) _) _ _ _); (refine exec_Try_G ?_; intro _ _)) | ((with_reducible show wpC _ _ (call (Value.ref 134) _ _) _ _ _); (try dsimp only); (refine' use_makeD ?zqF ?zqN ?zqnd ?zqB ?zqX ?zqT ?zqA ?zqf ?zqk ?zqh ?zqd ?zqu ?_; (case zqF => k_asm); (case zqN => k_asm); (case zqnd => (first | assumption | (refine nodup_join ?zqna ?zqnb ?zqnc; (case zqna => (simp only [List.map_cons, List.map_nil]; first | (simp only [List.nodup_cons, List.not_mem_nil, not_false_eq_true, List.nodup_nil, and_self]; done) | (refine nd2 ?_ <;> k_ne) | (refine nd3 ?_ ?_ ?_ <;> k_ne) | (refine nd4 ?_ ?_ ?_ ?_ ?_ ?_ <;> k_ne))); (case zqnb => (simp only [List.map_cons, List.map_nil]; walk_at "off")); (case zqnc => assumption)) | fail "nodup")); (case zqB => k_asm); (case zqX => k_asm); (case zqT => k_asm); (case zqA => k_asm); (case zqf => exact rfl); (case zqk => exact rfl); (case zqh => assumption); (case zqd => (first | exact room2 (by assumption) (by decide) | exact room3 (by assumption) (by decide) | walk_at "om")); (case zqu => (first | exact room2 (by assumption) (by decide) | exact room3 (by assumption) (by decide) | walk_at "om"))); intro _ _ _ _ _ _ _ _ _ _ _ _ _ _; (try k_sweep); dsimp only) | (((with_reducible show wpC _ _ (callWith _ (Value.type _) _ (backTo _ (starEach (_ :: _) _)) _) _ _ _); refine callWith_CT ?_)) | (((with_reducible show wpC _ _ (callWith _ (Value.ref _) _ (backTo _ (starEach [] _)) _) _ _ _); (refine' callWith_CK0 ?zqk1 ?zqk2 ?_; (case zqk1 => k_in); (case zqk2 => k_is)))) | (((with_reducible show wpC _ _ (eval (Expr.Constant _ _ _) _) _ _ _); refine wpC_any ?_)) | (((with_reducible show wpC _ _ (ite (false = true) _ _) _ _ _); refine wpC_ite_f Bool.false_ne_true ?_)) | (((with_reducible show wpC _ _ (spliced _) _ _ _); show wpC _ _ (spliced ((false, _) :: _)) _ _ _; refine spliced_cons_C ?_)) | (((with_reducible show wpC _ _ (spliced _) _ _ _); show wpC _ _ (spliced []) _ _ _; refine spliced_nil_C ?_)) | (((with_reducible show wpC _ _ (execs (_ :: _) _) _ _ _); refine execs_cons_G ?_; intro _ _ _)) | (((with_reducible show wpC _ _ (exec (Stmt.Assign [Expr.Name _ _] (Expr.Call _ _ _ _) _) _) _ _ _); refine exec_AssignName_C ?_)) | (((with_reducible show wpC _ _ (eval (Expr.Call (Expr.Name _ _) _ _ _) _) _ _ _); refine eval_CallName_C ?_)) | (((with_reducible show wpC _ _ (callWith _ (Value.ref _) _ _ _) _ _ _); first | (refine' callWith_CK0 ?zqk1 ?zqk2 ?_; (case zqk1 => k_in); (case zqk2 => k_is)) | (refine' callWith_CK ?zqk1 ?zqk2 ?_; (case zqk1 => k_asm); (case zqk2 => k_is)))))) | (dsimp only; (with_reducible show wpC _ _ _ _ _ _)) | ((fail_if_success (with_reducible show wpC _ _ _ _ _ _)); (first | walk1 | (dsimp only; walk1)))))
    rename_i x9 h5 tk5 dx ob q1 nd3 e2 e1 n1 n2 n3 D9 h4 l9 h3 h2 h6 h0 F3 N3 _ _ _ _ _ _ _ _
    have N4 := drop1 N3
    clear N3
    have hrun : decRun b = ⟨r.isSome, (r.getD []).toArray, #[] ++ ((ls.map (·.2)).flatten).toArray, 0, 0⟩ := (dec_lots b.toList.length b.toList (Nat.le_refl _) #[]).2 ls r hl
    refine use_ctrXA (decoded w (by walk_at "om")) F3 N4 nd3 B' X' T' (by k_asm) rfl rfl hh (by (first | exact room2 (by assumption) (by decide) | exact room3 (by assumption) (by decide) | walk_at "om")) (by (first | exact room2 (by assumption) (by decide) | exact room3 (by assumption) (by decide) | walk_at "om")) ?hx3 ?main3
    case hx3 =>
      rintro e dd tt g7 h7 tk7 l7 R7 FG7 U7 nd7 fr7 ⟨⟨_, h9⟩, _⟩
      exfalso
      rw [hrun] at h9
      rcases h9 with h9 | h9 <;> (dsimp only at h9; lia)
    case main3 =>
      rintro v h7 tk7 l7 F5 N5 nd5 ⟨-, rfl, t5, rfl⟩
      simp only [List.nil_append] at N5 nd5
      clear F3 N4 nd5
      rw [hrun]
      (repeat' (first | (k_unfold; (try dsimp only)) | (first | (with_reducible first | ((show (_ : Flow → Shared → Prop) _ _); rename Flow → Shared → Prop => K9; rename KR K9 _ => kr9; rename KN K9 _ => kn9; (first | refine kn9 _ ?_ | refine kr9.ret _ _ ?_ | refine kr9.brk _ ?_ | refine kr9.cont _ ?_); clear kn9 kr9 K9; (try dsimp only)) | ((show (_ : Flow → Shared → Prop) _ _); (first | refine kn_go (by assumption) ?_ | refine kr_go (by assumption) ?_); (try dsimp only)) | ((show (_ : Bool → Shared → Prop) _ _); rename Bool → Shared → Prop => K9; rename KT K9 _ => kb9; refine kb9 _ _ ?_; clear kb9 K9; (try dsimp only)))) | ((with_reducible show wpC _ _ _ _ _ _); (first | (((with_reducible show wpC _ _ (call (Value.type "bytes") _ _) _ _ _); refine wpC_any ?_)) | (((with_reducible show wpC _ _ (spliced _) _ _ _); show wpC _ _ (spliced []) _ _ _; refine spliced_nil_C ?_)) | (((with_reducible show wpC _ _ (execs (_ :: _) _) _ _ _); refine execs_cons_G ?_; intro _ _ _)) | (((with_reducible show wpC _ _ (execs [] _) _ _ _); refine execs_nil_C ?_)) | (((with_reducible show wpC _ _ (exec (Stmt.If _ _ _ _) _) _ _ _); refine exec_If_G ?_; intro _ _)))) | (dsimp only; (with_reducible show wpC _ _ _ _ _ _)) | ((fail_if_success (with_reducible show wpC _ _ _ _ _ _)); (first | walk1 | (dsimp only; walk1)))))
      rename News _ _ _ _ => N8
      rename Fr _ _ _ _ => F8
      have hlen := hlo.1
      have zz : ((ls.map (·.2)).flatten).length ≤ 16777216 := by
        have h8 : (decRun b).out.size ≤ 0 + 128 * b.toList.length := (Dec.run_ok (st := ⟨false, #[], #[], 0, 0⟩) (l := b.toList) (by decide)).2.1
        rw [hrun] at h8
        simp only [Array.size_append, List.size_toArray, List.length_nil, Array.length_toList] at h8
        lia
      have hll : ls.length ≤ 10000 := Nat.le_trans (lots_len b.toList.length b.toList (Nat.le_refl _) ls r hl).1 (by rw [Array.length_toList]; exact hb)
      have hvl : vs1.length ≤ 10000 := by rw [hlen]; exact hll
      refine LCg.CompSrc.ledger hh F8 N8 (.tail _ (.tail _ (.tail _ (.tail _ (.head _))))) (Nat.le_trans (show vs1.toArray.size ≤ 10000 from by rw [List.size_toArray]; exact hvl) (by rw [sizeLine_eq]; lia)) (fun g => ?_)
      refine compRest_J (n := vs1.toArray.size) (fun i ys nw => nw = (x9, instObj 134 dx) :: (dx, decD w.params q1 false #[] ob 0 0) :: (ob, baObj #[]) :: (D, tupOf [.ref f, x]) :: (f, W.listOf vs1.toArray cap1) :: (d, o) :: (c, W.listOf vs.toArray cap) :: (os ++ rest) ∧ BytesAre ys ((ls.take i).map (·.2))) ?hS ?step ?fin _ 0 [] _ rfl ⟨rfl, rfl, fun i v h => by simp at h⟩
      case hS =>
        rintro i ys nw ⟨rfl, _⟩
        exact .inr ⟨_, .tail _ (.tail _ (.tail _ (.tail _ (.head _)))), rfl, _, rfl⟩
      case step =>
        rintro i v ys nw I oI C oC D2 m₂ h tk E' hi hP ⟨rfl, hby⟩ hC2 hx2 F9 N9 off ne
        have hi2 : i < ls.length := by rw [← hlen]; simpa using hi
        obtain ⟨a, ta, hv1, hv2⟩ := hlo.2 i ls[i].1 ls[i].2 (List.getElem?_eq_getElem hi2)
        obtain rfl : v = .ref a := Option.some.inj (hP.symm.trans (by simpa using hv1))
        have ht : IsTup h a #[.bool ls[i].1, .bytes ls[i].2.toArray ta] := News.isTup N9 (.tail _ (.tail _ (.tail _ (.tail _ (.tail _ (.tail _ (.tail _ (.tail _ (.tail _ (.tail _ (List.mem_append_left _ hv2)))))))))))
        have e9 : (ls.take (i + 1)).map (·.2) = (ls.take i).map (·.2) ++ [ls[i].2] := by rw [List.take_succ, List.getElem?_eq_getElem hi2, List.map_append]; rfl
        (repeat' (first | (k_unfold; (try dsimp only)) | (first | (with_reducible first | ((show (_ : Flow → Shared → Prop) _ _); rename Flow → Shared → Prop => K9; rename KR K9 _ => kr9; rename KN K9 _ => kn9; (first | refine kn9 _ ?_ | refine kr9.ret _ _ ?_ | refine kr9.brk _ ?_ | refine kr9.cont _ ?_); clear kn9 kr9 K9; (try dsimp only)) | ((show (_ : Flow → Shared → Prop) _ _); (first | refine kn_go (by assumption) ?_ | refine kr_go (by assumption) ?_); (try dsimp only)) | ((show (_ : Bool → Shared → Prop) _ _); rename Bool → Shared → Prop => K9; rename KT K9 _ => kb9; refine kb9 _ _ ?_; clear kb9 K9; (try dsimp only)))) | ((fail_if_success (with_reducible show wpC _ _ _ _ _ _)); (first | walk1 | (dsimp only; walk1)))))
        refine ⟨_, _, _, rfl, F9, N9, off, rfl, ?_⟩
        rw [e9]
        exact BytesAre.snoc hby
      case fin =>
        rintro ys nw ⟨rfl, hby⟩
        intro D3 h tk F9 N9 off
        rw [List.take_of_length_le (by rw [List.size_toArray]; lia)] at hby
        (repeat' (first | (k_unfold; (try dsimp only)) | (first | (with_reducible first | ((show (_ : Flow → Shared → Prop) _ _); rename Flow → Shared → Prop => K9; rename KR K9 _ => kr9; rename KN K9 _ => kn9; (first | refine kn9 _ ?_ | refine kr9.ret _ _ ?_ | refine kr9.brk _ ?_ | refine kr9.cont _ ?_); clear kn9 kr9 K9; (try dsimp only)) | ((show (_ : Flow → Shared → Prop) _ _); (first | refine kn_go (by assumption) ?_ | refine kr_go (by assumption) ?_); (try dsimp only)) | ((show (_ : Bool → Shared → Prop) _ _); rename Bool → Shared → Prop => K9; rename KT K9 _ => kb9; refine kb9 _ _ ?_; clear kb9 K9; (try dsimp only)))) | ((fail_if_success (with_reducible show wpC _ _ _ _ _ _)); (first | walk1 | (dsimp only; walk1)))))
        case refine'_2.refine_1 =>
          rename (_ != _) = true => hb9
          exfalso
          revert hb9
          simp
        rename (_ != _) = false => hb9
        clear hb9
        (repeat' (first | (k_unfold; (try dsimp only)) | (first | (with_reducible first | ((show (_ : Flow → Shared → Prop) _ _); rename Flow → Shared → Prop => K9; rename KR K9 _ => kr9; rename KN K9 _ => kn9; (first | refine kn9 _ ?_ | refine kr9.ret _ _ ?_ | refine kr9.brk _ ?_ | refine kr9.cont _ ?_); clear kn9 kr9 K9; (try dsimp only)) | ((show (_ : Flow → Shared → Prop) _ _); (first | refine kn_go (by assumption) ?_ | refine kr_go (by assumption) ?_); (try dsimp only)) | ((show (_ : Bool → Shared → Prop) _ _); rename Bool → Shared → Prop => K9; rename KT K9 _ => kb9; refine kb9 _ _ ?_; clear kb9 K9; (try dsimp only)))) | ((with_reducible show wpC _ _ _ _ _ _); (first | ((with_reducible show wpC _ _ (exec (Stmt.Assign [Expr.Tuple _ _ _] (Expr.Tuple _ _ _) _) _) _ _ _); (first | (refine exec_AssignSwap_C ?_) | (refine wpC_any ?_))) | ((with_reducible show wpC _ _ (exec (Stmt.Try _ _ _ _ _) _) _ _ _); (refine exec_Try_G ?_; intro _ _)) | ((with_reducible show wpC _ _ (exec (Stmt.For _ _ _ _ _) _) _ _ _); (refine exec_For_G ?_)) | (((with_reducible show wpC _ _ (execs (_ :: _) _) _ _ _); refine execs_cons_G ?_; intro _ _ _)) | (((with_reducible show wpC _ _ (execs [] _) _ _ _); refine execs_nil_C ?_)) | (((with_reducible show wpC _ _ (eval (Expr.Call (Expr.Name _ _) _ _ _) _) _ _ _); refine eval_CallName_C ?_)) | (((with_reducible show wpC _ _ (callWith _ (Value.ref _) _ _ _) _ _ _); first | (refine' callWith_CK0 ?zqk1 ?zqk2 ?_; (case zqk1 => k_in); (case zqk2 => k_is)) | (refine' callWith_CK ?zqk1 ?zqk2 ?_; (case zqk1 => k_asm); (case zqk2 => k_is)))))) | (dsimp only; (with_reducible show wpC _ _ _ _ _ _)) | ((fail_if_success (with_reducible show wpC _ _ _ _ _ _)); (first | walk1 | (dsimp only; walk1)))))
        rename News _ _ _ _ => N11
        rename Fr _ _ _ _ => F11
        have N12 := drop2 N11
        clear N11
        try clear N9
        try clear N8
        try clear F9
        try clear F8
        have pp := (List.perm_append_comm (l₁ := [(x9, instObj 134 dx), (dx, decD w.params q1 false #[] ob 0 0), (ob, baObj #[]), (D, tupOf [.ref f, x]), (f, W.listOf vs1.toArray cap1)]) (l₂ := [(d, o), (c, W.listOf vs.toArray cap)])).append_right (os ++ rest)
        refine use_ctr2 (pieces w hC hd0 lo ha ha' (by walk_at "om")) F11 (news_perm pp N12) (nodup_perm pp nd3) B' X' T' (by k_asm) rfl rfl hh (by (first | exact room2 (by assumption) (by decide) | exact room3 (by assumption) (by decide) | walk_at "om")) (by (first | exact room2 (by assumption) (by decide) | exact room3 (by assumption) (by decide) | walk_at "om")) ?_
        rintro v12 h12 tk12 l12 F12 N13 nd13 ⟨r9, p1, p2, p3, t1, t2, t3, t4, o', cap', rfl, hp3, hd1, rfl⟩
        have pp := (List.perm_append_comm (l₁ := [(r9, W.listOf #[.bytes p1 t1, .bytes p2 t2, .bytes p3 t3] cap'), (d, o'), (c, W.listOf vs.toArray cap)]) (l₂ := [(x9, instObj 134 dx), (dx, decD w.params q1 false #[] ob 0 0), (ob, baObj #[])])).append_right ((D, tupOf [.ref f, x]) :: (f, W.listOf vs1.toArray cap1) :: (os ++ rest))
        have N14 := news_perm pp N13
        have nd14 := nodup_perm pp nd13
        clear N12 N13 nd13
        refine for_list_C (m := _) (news := _) (its := #[.bytes p1 t1, .bytes p2 t2, .bytes p3 t3]) (fun i m₁ nw => ∃ l3 tf, DecAt w.params x9 ⟨(Dec.run ⟨false, #[], #[], 0, 0⟩ (pre3 p1 p2 p3 i)).done, (Dec.run ⟨false, #[], #[], 0, 0⟩ (pre3 p1 p2 p3 i)).left, #[], (Dec.run ⟨false, #[], #[], 0, 0⟩ (pre3 p1 p2 p3 i)).plain, (Dec.run ⟨false, #[], #[], 0, 0⟩ (pre3 p1 p2 p3 i)).many⟩ l3 ∧
            nw = l3 ++ ((r9, W.listOf #[.bytes p1 t1, .bytes p2 t2, .bytes p3 t3] cap') :: (d, o') :: (c, W.listOf vs.toArray cap) :: (D, tupOf [.ref f, x]) :: (f, W.listOf vs1.toArray cap1) :: (os ++ rest)) ∧
            m₁ (Str.ofString "found") = some (.bytes (Dec.run ⟨false, #[], #[], 0, 0⟩ (pre3 p1 p2 p3 i)).out tf) ∧ m₁ (Str.ofString "is_cut") = some (.bool false) ∧ m₁ (Str.ofString "due") = some (.ref D) ∧ m₁ (Str.ofString "coder") = some (.ref x9) ∧ (∃ t, m₁ (Str.ofString "told") = some (.bytes ((#[] ++ ((ls.map (·.2)).flatten).toArray) ++ #[]) t)) ∧ m₁ (Str.ofString "octets") = some (.bytes b tb)) hh ?hgo F12 N14 nd14 ?hS ?hJ ?step ?done
        case hJ =>
          exact ⟨[(x9, instObj 134 dx), (dx, decD w.params q1 false #[] ob 0 0), (ob, baObj #[])], _, decAt_of, rfl, rfl, rfl, rfl, rfl, ⟨_, rfl⟩, rfl⟩
        case hgo =>
          intro I i v s' Q _ q
          exact wpAny_pure q
        case hS =>
          rintro i mm nw ⟨l3, tf, ⟨_, _, ⟨_, _, _, _, _, _, _, _⟩, rfl⟩, rfl, _⟩
          exact .inr ⟨_, List.mem_append_right _ (.head _), rfl, _, rfl⟩
        case step =>
          rintro i v I m₁ nw h tk oI hi hv ⟨l3, tf, ⟨dx2, o2, z1, rfl⟩, rfl, m1, m2, m3, m4, m5, m6⟩ F15 N15 nd15
          obtain ⟨p9, t9, rfl, e9, z9, z10⟩ := pre3_step hp3 hv
          simp only [List.cons_append, List.nil_append] at N15 nd15
          (repeat' (first | (k_unfold; (try dsimp only)) | (first | (with_reducible first | ((show (_ : Flow → Shared → Prop) _ _); rename Flow → Shared → Prop => K9; rename KR K9 _ => kr9; rename KN K9 _ => kn9; (first | refine kn9 _ ?_ | refine kr9.ret _ _ ?_ | refine kr9.brk _ ?_ | refine kr9.cont _ ?_); clear kn9 kr9 K9; (try dsimp only)) | ((show (_ : Flow → Shared → Prop) _ _); (first | refine kn_go (by assumption) ?_ | refine kr_go (by assumption) ?_); (try dsimp only)) | ((show (_ : Bool → Shared → Prop) _ _); rename Bool → Shared → Prop => K9; rename KT K9 _ => kb9; refine kb9 _ _ ?_; clear kb9 K9; (try dsimp only)))) | ((with_reducible show wpC _ _ _ _ _ _); (first | ((with_reducible show wpC _ _ (exec (Stmt.Assign [Expr.Name _ _] (Expr.BinOp _ _ _ _) _) _) _ _ _); (refine exec_AssignName_C ?_)) | (((with_reducible show wpC _ _ (callWith _ (Value.type _) _ (backTo _ (starEach (_ :: _) _)) _) _ _ _); refine callWith_CT ?_)) | (((with_reducible show wpC _ _ (eval (Expr.BinOp _ _ _ _) _) _ _ _); refine eval_BinOp_C ?_)) | (((with_reducible show wpC _ _ (eval (Expr.Name _ _) _) _ _ _); refine wpC_any ?_)) | (((with_reducible show wpC _ _ (ite (false = true) _ _) _ _ _); refine wpC_ite_f Bool.false_ne_true ?_)) | (((with_reducible show wpC _ _ (spliced _) _ _ _); show wpC _ _ (spliced ((false, _) :: _)) _ _ _; refine spliced_cons_C ?_)) | (((with_reducible show wpC _ _ (execs (_ :: _) _) _ _ _); refine execs_cons_G ?_; intro _ _ _)) | (((with_reducible show wpC _ _ (eval (Expr.Call (Expr.Name _ _) _ _ _) _) _ _ _); refine eval_CallName_C ?_)) | (((with_reducible show wpC _ _ (eval (Expr.Call (Expr.Attribute _ _ _) _ _ _) _) _ _ _); refine eval_CallMeth_C ?_)) | (((with_reducible show wpC _ _ (callWith _ (Value.ref _) _ _ _) _ _ _); first | (refine' callWith_CK0 ?zqk1 ?zqk2 ?_; (case zqk1 => k_in); (case zqk2 => k_is)) | (refine' callWith_CK ?zqk1 ?zqk2 ?_; (case zqk1 => k_asm); (case zqk2 => k_is)))))) | (dsimp only; (with_reducible show wpC _ _ _ _ _ _)) | ((fail_if_success (with_reducible show wpC _ _ _ _ _ _)); (first | walk1 | (dsimp only; walk1)))))
          rename News _ _ _ _ => N16
          rename Fr _ _ _ _ => F16
          try clear N15
          try clear F15
          have hD1 : Dec.run ⟨false, #[], #[], 0, 0⟩ (pre3 p1 p2 p3 (i + 1)) = _ := (congrArg (Dec.run ⟨false, #[], #[], 0, 0⟩) e9).trans ((dec_append _ _ _).trans (feed_step _ _))
          have y9 := Dec.run_ok (st := ⟨false, #[], #[], 0, 0⟩) (l := pre3 p1 p2 p3 i) (by decide)
          generalize Dec.run ⟨false, #[], #[], 0, 0⟩ (pre3 p1 p2 p3 i) = DD at hD1 y9 m1 N16 nd15
          obtain ⟨y1, y2, y3⟩ := y9
          (try dsimp only [Array.size_empty] at y2 y3)
          (try simp only [List.size_toArray, List.length_nil] at y2 y3)
          have y8 := Dec.run_ok (st := ⟨DD.done, DD.left, #[], DD.plain, DD.many⟩) (l := p9.toList) y1
          obtain ⟨y4, y5, y6⟩ := y8
          (try dsimp only [Array.size_empty] at y5 y6)
          (try simp only [List.size_toArray, List.length_nil, Array.length_toList] at y5 y6)
          have pp := (List.perm_append_comm (l₁ := [(I, oI)]) (l₂ := [(x9, instObj 134 dx2), (dx2, decD w.params z1 DD.done DD.left o2 DD.plain DD.many), (o2, baObj #[])])).append_right ((r9, W.listOf #[.bytes p1 t1, .bytes p2 t2, .bytes p3 t3] cap') :: (d, o') :: (c, W.listOf vs.toArray cap) :: (D, tupOf [.ref f, x]) :: (f, W.listOf vs1.toArray cap1) :: (os ++ rest))
          refine use_decB (dec_feedT w (by walk_at "om") (by (try simp only [List.size_toArray, List.length_nil, Array.size_empty]); walk_at "om") (by walk_at "om")) F16 (news_perm pp N16) (nodup_perm pp nd15) B' X' T' (by k_asm) rfl rfl hh (by (first | exact room2 (by assumption) (by decide) | exact room3 (by assumption) (by decide) | walk_at "om")) (by (first | exact room2 (by assumption) (by decide) | exact room3 (by assumption) (by decide) | walk_at "om")) ?_
          intro h17 tk17 dx3 o3 w1 t17 F17 N17 nd17 _ _ _ _ _
          try simp only [List.cons_append, List.nil_append] at N17
          try clear N16
          try clear F16
          dsimp only
          (repeat' (first | (k_unfold; (try dsimp only)) | (first | (with_reducible first | ((show (_ : Flow → Shared → Prop) _ _); rename Flow → Shared → Prop => K9; rename KR K9 _ => kr9; rename KN K9 _ => kn9; (first | refine kn9 _ ?_ | refine kr9.ret _ _ ?_ | refine kr9.brk _ ?_ | refine kr9.cont _ ?_); clear kn9 kr9 K9; (try dsimp only)) | ((show (_ : Flow → Shared → Prop) _ _); (first | refine kn_go (by assumption) ?_ | refine kr_go (by assumption) ?_); (try dsimp only)) | ((show (_ : Bool → Shared → Prop) _ _); rename Bool → Shared → Prop => K9; rename KT K9 _ => kb9; refine kb9 _ _ ?_; clear kb9 K9; (try dsimp only)))) | ((with_reducible show wpC _ _ _ _ _ _); (first | (((with_reducible show wpC _ _ (call (Value.type "bytes") _ _) _ _ _); refine wpC_any ?_)) | (((with_reducible show wpC _ _ (spliced _) _ _ _); show wpC _ _ (spliced []) _ _ _; refine spliced_nil_C ?_)) | (((with_reducible show wpC _ _ (execs [] _) _ _ _); refine execs_nil_C ?_)))) | (dsimp only; (with_reducible show wpC _ _ _ _ _ _)) | ((fail_if_success (with_reducible show wpC _ _ _ _ _ _)); (first | walk1 | (dsimp only; walk1)))))
          show TurnEnd _ _ _ _ _ _ _
          rename News _ _ _ _ => N18
          rename Fr _ _ _ _ => F18
          refine' ⟨_, _, _, _, rfl, F18, news_perm perm31 N18, nodup_perm perm31 nd17, [(x9, instObj 134 dx3), (dx3, _), (o3, baObj #[])], _, ?e1, rfl, ?e2, m2, m3, m4, m5, m6⟩
          case e1 =>
            rw [hD1]
            exact decAt_of
          case e2 =>
            rw [hD1]
            rfl
        case done =>
          rintro h20 tk20 m20 n20 ⟨l3, tf, ⟨dx2, o2, z1, rfl⟩, rfl, m1, m2, m3, m4, m5, m6⟩ F20 N20 nd20
          simp only [List.cons_append, List.nil_append] at N20 nd20
          have e20 : (#[Value.bytes p1 t1, .bytes p2 t2, .bytes p3 t3] : Array Value).size = 3 := rfl
          rw [e20, pre3_all p1 p2 p3 hp3] at m1
          rw [e20, pre3_all p1 p2 p3 hp3] at N20
          have hrun' : Dec.run ⟨false, #[], #[], 0, 0⟩ b.toList = ⟨r.isSome, (r.getD []).toArray, #[] ++ ((ls.map (·.2)).flatten).toArray, 0, 0⟩ := hrun
          rw [hrun'] at m1 N20
          dsimp only at m1 N20
          (repeat' (first | (k_unfold; (try dsimp only)) | (first | (with_reducible first | ((show (_ : Flow → Shared → Prop) _ _); rename Flow → Shared → Prop => K9; rename KR K9 _ => kr9; rename KN K9 _ => kn9; (first | refine kn9 _ ?_ | refine kr9.ret _ _ ?_ | refine kr9.brk _ ?_ | refine kr9.cont _ ?_); clear kn9 kr9 K9; (try dsimp only)) | ((show (_ : Flow → Shared → Prop) _ _); (first | refine kn_go (by assumption) ?_ | refine kr_go (by assumption) ?_); (try dsimp only)) | ((show (_ : Bool → Shared → Prop) _ _); rename Bool → Shared → Prop => K9; rename KT K9 _ => kb9; refine kb9 _ _ ?_; clear kb9 K9; (try dsimp only)))) | ((with_reducible show wpC _ _ _ _ _ _); (first | ((with_reducible show wpC _ _ (exec (Stmt.Assign [Expr.Name _ _] (Expr.BinOp _ _ _ _) _) _) _ _ _); (refine exec_AssignName_C ?_)) | (((with_reducible show wpC _ _ (callWith _ (Value.type _) _ (backTo _ (starEach (_ :: _) _)) _) _ _ _); refine callWith_CT ?_)) | (((with_reducible show wpC _ _ (callWith _ (Value.ref _) _ (backTo _ (starEach [] _)) _) _ _ _); (refine' callWith_CK0 ?zqk1 ?zqk2 ?_; (case zqk1 => k_in); (case zqk2 => k_is)))) | (((with_reducible show wpC _ _ (eval (Expr.BinOp _ _ _ _) _) _ _ _); refine eval_BinOp_C ?_)) | (((with_reducible show wpC _ _ (eval (Expr.Name _ _) _) _ _ _); refine wpC_any ?_)) | (((with_reducible show wpC _ _ (ite (false = true) _ _) _ _ _); refine wpC_ite_f Bool.false_ne_true ?_)) | (((with_reducible show wpC _ _ (spliced _) _ _ _); show wpC _ _ (spliced ((false, _) :: _)) _ _ _; refine spliced_cons_C ?_)) | (((with_reducible show wpC _ _ (execs (_ :: _) _) _ _ _); refine execs_cons_G ?_; intro _ _ _)) | (((with_reducible show wpC _ _ (exec _ _) _ _ _); refine wpC_any ?_)) | (((with_reducible show wpC _ _ (eval (Expr.Call (Expr.Name _ _) _ _ _) _) _ _ _); refine eval_CallName_C ?_)) | (((with_reducible show wpC _ _ (eval (Expr.Call (Expr.Attribute _ _ _) _ _ _) _) _ _ _); refine eval_CallMeth_C ?_)) | ((dsimp only)))) | (dsimp only; (with_reducible show wpC _ _ _ _ _ _)) | ((fail_if_success (with_reducible show wpC _ _ _ _ _ _)); (first | walk1 | (dsimp only; walk1)))))
          rename News _ _ _ _ => N21
          rename Fr _ _ _ _ => F21
          try clear N20
          try clear F20
          refine use_decXB (dec_finishT w (by (try simp only [List.size_toArray, List.length_nil, Array.size_empty]); walk_at "om")) F21 N21 nd20 B' X' T' (by k_asm) rfl rfl hh (by (first | exact room2 (by assumption) (by decide) | exact room3 (by assumption) (by decide) | walk_at "om")) (by (first | exact room2 (by assumption) (by decide) | exact room3 (by assumption) (by decide) | walk_at "om")) ?hx4 ?main4
          case hx4 =>
            rintro e dd tt g7 h7 tk7 l7 R7 FG7 U7 nd7 fr7 ⟨⟨_, h9⟩, _⟩
            exfalso
            rcases h9 with h9 | h9 <;> exact absurd h9 (Int.lt_irrefl 0)
          case main4 =>
            intro h22 tk22 dx4 o4 u1 t22 _ F22 N22 nd22 _ _ _ _ _
            try simp only [List.cons_append, List.nil_append] at N22
            clear F21 N21
            obtain ⟨t23, m5⟩ := m5
            rcases hr with ⟨rfl, rfl⟩ | ⟨r', tr', rfl, rfl⟩
            all_goals dsimp only [Option.isSome, Option.getD] at *
            all_goals dsimp only [List.nil_append]
            all_goals (repeat' (first | (k_unfold; (try dsimp only)) | (first | (with_reducible first | ((show (_ : Flow → Shared → Prop) _ _); rename Flow → Shared → Prop => K9; rename KR K9 _ => kr9; rename KN K9 _ => kn9; (first | refine kn9 _ ?_ | refine kr9.ret _ _ ?_ | refine kr9.brk _ ?_ | refine kr9.cont _ ?_); clear kn9 kr9 K9; (try dsimp only)) | ((show (_ : Flow → Shared → Prop) _ _); (first | refine kn_go (by assumption) ?_ | refine kr_go (by assumption) ?_); (try dsimp only)) | ((show (_ : Bool → Shared → Prop) _ _); rename Bool → Shared → Prop => K9; rename KT K9 _ => kb9; refine kb9 _ _ ?_; clear kb9 K9; (try dsimp only)))) | ((with_reducible show wpC _ _ _ _ _ _); (first | (((with_reducible show wpC _ _ (call (Value.type "bytes") _ _) _ _ _); refine wpC_any ?_)) | (((with_reducible show wpC _ _ (spliced _) _ _ _); show wpC _ _ (spliced []) _ _ _; refine spliced_nil_C ?_)) | (((with_reducible show wpC _ _ (execs (_ :: _) _) _ _ _); refine execs_cons_G ?_; intro _ _ _)) | (((with_reducible show wpC _ _ (execs [] _) _ _ _); refine execs_nil_C ?_)) | (((with_reducible show wpC _ _ (exec (Stmt.If _ _ _ _) _) _ _ _); refine exec_If_G ?_; intro _ _)) | (((with_reducible show wpC _ _ (exec _ _) _ _ _); refine wpC_any ?_)))) | (dsimp only; (with_reducible show wpC _ _ _ _ _ _)) | ((fail_if_success (with_reducible show wpC _ _ _ _ _ _)); (first | walk1 | (dsimp only; walk1)))))
            all_goals rename (_ != _) = _ => hb9
            all_goals first | (exfalso; revert hb9; simp; done) | skip
            all_goals
              rename News _ _ _ _ => N23
              rename Fr _ _ _ _ => F23
              obtain ⟨Fb, Nb⟩ := S.back F23 N23
            · show R (.ok (.ret (.bool true))) _
              refine' ret (.bool true) _ _ [(d, o'), (c, W.listOf vs.toArray cap)] Fb (news_sub Nb ?r6) nd ⟨rfl, _, _, hd1, rfl⟩
              exact fun y hy => restM hy
            · rename _ = KBy.picked _ _ _ => q9
              have hsf := (lots_len b.toList.length b.toList (Nat.le_refl _) ls (some r') hl).2 r' rfl
              rw [picked_tail hsf] at q9
              show R (.ok (.ret (.bool _))) _
              refine' ret (.bool _) _ _ [(d, o'), (c, W.listOf vs.toArray cap)] Fb (news_sub Nb ?r3) nd ⟨congrArg Value.bool ?r4, _, _, hd1, rfl⟩
              case r3 => exact fun y hy => restM hy
              case r4 => rw [q9]; simp
end
section
/-- the octets of a lot -/
def encLot : Lot → List UInt8
  | (false, p) => (p.length - 1).toUInt8 :: p
  | (true, p) => (257 - p.length).toUInt8 :: p.take 1
def encLs (ls : List Lot) : List UInt8 := (ls.map encLot).flatten
theorem encL_snoc (ls : List Lot) (l : Lot) : encLs (ls ++ [l]) = encLs ls ++ encLot l := by simp [encLs]
/-- a lot that can be written -/
structure Wf (l : Lot) : Prop where
  pl : l.1 = false → 1 ≤ l.2.length ∧ l.2.length ≤ 128
  rn : l.1 = true → ∃ n c, l.2 = List.replicate n c ∧ 2 ≤ n ∧ n ≤ 128
theorem toUInt8_nat {n : Nat} (h : n < 256) : n.toUInt8.toNat = n := by
  simp [Nat.toUInt8]
  lia
/-- what is written is read back -/
theorem lots_enc : ∀ (ls : List Lot) (r : List UInt8), (∀ l ∈ ls, Wf l) → lotsL (encLs ls ++ (128 :: r)) = some (ls, some r)
  | [], r, _ => by
    show lotsL (128 :: r) = _
    exact lotsL_mark rfl
  | (false, p) :: ls, r, h => by
    have ih := lots_enc ls r (fun l hl => h l (.tail _ hl))
    obtain ⟨h1, h2⟩ := (h _ (.head _)).pl rfl
    dsimp only at h1 h2
    have e : encLs ((false, p) :: ls) ++ (128 :: r) = (p.length - 1).toUInt8 :: (p ++ (encLs ls ++ (128 :: r))) := by simp [encLs, encLot]
    have e1 : ((p.length - 1).toUInt8).toNat = p.length - 1 := toUInt8_nat (by lia)
    rw [e, lotsL_plain (by lia) (by rw [e1]; simp only [List.length_append, List.length_cons]; lia), e1]
    have e2 : p.length - 1 + 1 = p.length := by lia
    rw [e2, List.drop_left, ih, List.take_left]
    rfl
  | (true, p) :: ls, r, h => by
    have ih := lots_enc ls r (fun l hl => h l (.tail _ hl))
    obtain ⟨n, c, h0, h1, h2⟩ := (h _ (.head _)).rn rfl
    dsimp only at h0
    subst h0
    have e : encLs ((true, List.replicate n c) :: ls) ++ (128 :: r) = (257 - n).toUInt8 :: c :: (encLs ls ++ (128 :: r)) := by
      obtain ⟨k, rfl⟩ : ∃ k, n = k + 1 := ⟨n - 1, by lia⟩
      simp [encLs, encLot, List.replicate_succ]
    have e1 : ((257 - n).toUInt8).toNat = 257 - n := toUInt8_nat (by lia)
    rw [e, lotsL_run (by lia), e1, ih]
    have e2 : 257 - (257 - n) = n := by lia
    rw [e2]
    rfl
theorem encLot_len {l : Lot} (h : Wf l) : (encLot l).length ≤ 2 * l.2.length := by
  obtain ⟨r, p⟩ := l
  cases r
  · have := h.pl rfl
    dsimp only at this
    simp only [encLot, List.length_cons]
    lia
  · obtain ⟨n, c, h0, h1, h2⟩ := h.rn rfl
    dsimp only at h0
    subst h0
    simp only [encLot, List.length_cons, List.length_take, List.length_replicate]
    lia
theorem encL_len : ∀ {ls : List Lot}, (∀ l ∈ ls, Wf l) → (encLs ls).length ≤ 2 * ((ls.map (·.2)).flatten).length
  | [], _ => Nat.le_refl _
  | l :: ls, h => by
    have ih := encL_len (ls := ls) (fun l hl => h l (.tail _ hl))
    have := encLot_len (h l (.head _))
    have e : encLs (l :: ls) = encLot l ++ encLs ls := by simp [encLs]
    rw [e]
    simp only [List.map_cons, List.flatten_cons, List.length_append]
    lia
theorem noThree_nil : NoThree [] := fun k c h => by simp at h
theorem noThree_app {p : List UInt8} {c : UInt8} {n : Nat} (h : NoThree p) (hn : n ≤ 2) (hl : 0 < n → ∀ x, p.getLast? = some x → x ≠ c) : NoThree (p ++ List.replicate n c) := by
  intro k d h1 h2 h3
  by_cases g3 : k + 2 < p.length
  · rw [List.getElem?_append_left (by lia)] at h1 h2 h3
    exact h k d h1 h2 h3
  · have l3 : k + 2 < p.length + n := by
      have := (List.getElem?_eq_some_iff.mp h3).1
      simpa using this
    rw [List.getElem?_append_right (by lia)] at h3
    have e3 : d = c := by
      rw [List.getElem?_replicate] at h3
      split at h3
      · exact (Option.some.inj h3).symm
      · cases h3
    subst e3
    by_cases g : p.length = 0
    · lia
    have el : p.getLast? = p[p.length - 1]? := List.getLast?_eq_getElem?
    by_cases g2 : k + 1 < p.length
    · rw [List.getElem?_append_left (by lia)] at h2
      refine hl (by lia) d ?_ rfl
      rw [el, show p.length - 1 = k + 1 from by lia, h2]
    · rw [List.getElem?_append_left (by lia)] at h1
      refine hl (by lia) d ?_ rfl
      rw [el, show p.length - 1 = k from by lia, h1]
theorem right_snoc {rc : Int} {ls : List Lot} {l : Lot} (h : Right rc ls) (hl : RightAt rc ((((ls.map (·.2)).flatten).length : Nat) : Int) l) : Right rc (ls ++ [l]) := by
  intro i l' hi
  by_cases g : i < ls.length
  · rw [List.getElem?_append_left g] at hi
    have := h i l' hi
    have e : placeAt (ls ++ [l]) i = placeAt ls i := by unfold placeAt; rw [List.take_append_of_le_length (by lia)]
    rw [e]; exact this
  · have l3 : i < ls.length + 1 := by
      have := (List.getElem?_eq_some_iff.mp hi).1
      simpa using this
    obtain rfl : i = ls.length := by lia
    rw [List.getElem?_append_right (Nat.le_refl _), Nat.sub_self] at hi
    obtain rfl : l = l' := Option.some.inj hi
    have e : placeAt (ls ++ [l]) ls.length = ((((ls.map (·.2)).flatten).length : Nat) : Int) := by
      unfold placeAt
      rw [List.take_left, List.length_flatten, List.map_map]
      rfl
    rw [e]; exact hl
theorem fdiv_in {q rc x y : Int} (h : 0 < rc) (h0 : q * rc ≤ x) (h1 : x ≤ y) (h2 : y < q * rc + rc) : x.fdiv rc = y.fdiv rc := by
  have f : ∀ z : Int, q * rc ≤ z → z < q * rc + rc → z.fdiv rc = q := by
    intro z a b
    rw [Int.fdiv_eq_ediv_of_nonneg _ (Int.le_of_lt h)]
    obtain ⟨d, rfl⟩ : ∃ d, z = d + q * rc := ⟨z - q * rc, by lia⟩
    rw [Int.add_mul_ediv_right _ _ (by lia), Int.ediv_eq_zero_of_lt (by lia) (by lia)]
    lia
  rw [f x h0 (by lia), f y (by lia) h2]
/-- what stands in an encoder that has taken the octets c and closed the lots ls -/
structure EB (rc : Int) (st : Enc) (ls : List Lot) (c : List UInt8) (sc : UInt8) : Prop where
  out : st.out.toList = encLs ls
  all : (ls.map (·.2)).flatten ++ (st.plain.toList ++ List.replicate st.many.toNat sc) = c
  right : Right rc ls
  wf : ∀ l ∈ ls, Wf l
  same : st.same = (sc.toNat : Int)
  many0 : 0 ≤ st.many
  many1 : st.many ≤ 128
  size : st.plain.size ≤ 128
  three : NoThree st.plain.toList
  last : 0 < st.many → ∀ x, st.plain.toList.getLast? = some x → x ≠ sc
  place : 0 < rc → ∃ q : Int, (c.length : Int) = q * rc + st.taken ∧ st.taken ≤ rc ∧ st.plain.size + st.many ≤ st.taken
theorem EB.lens {rc : Int} {st : Enc} {ls : List Lot} {c : List UInt8} {sc : UInt8} (h : EB rc st ls c sc) : (((ls.map (·.2)).flatten).length : Int) + st.plain.size + st.many = c.length := by
  have := congrArg List.length h.all
  simp only [List.length_append, List.length_replicate, Array.length_toList] at this
  have := h.many0
  lia
theorem EB.cp {rc : Int} {st : Enc} {ls : List Lot} {c : List UInt8} {sc : UInt8} (h : EB rc st ls c sc) : ∃ ls', EB rc st.closePlain ls' c sc := by
  have hl := h.lens
  obtain ⟨h1, h2, h3, h4, h5, h6, h7, h8, h9, h10, h11⟩ := h
  obtain ⟨out, tk, plain, sm, mn⟩ := st
  dsimp only at *
  unfold Enc.closePlain cpOut
  dsimp only
  by_cases g : 0 < plain.size
  · rw [if_pos g]
    refine ⟨ls ++ [(false, plain.toList)], ⟨?_, ?_, ?_, ?_, h5, h6, h7, Nat.zero_le _, noThree_nil, fun _ x hx => by simp at hx, fun r => ?_⟩⟩
    · dsimp only
      rw [encL_snoc, Array.toList_append, Array.toList_push, h1]
      simp only [encLot, Array.length_toList, List.append_assoc, List.cons_append, List.nil_append]
      rw [show ((plain.size : Int) - 1).toNat = plain.size - 1 from by lia]
    · dsimp only
      rw [← h2]
      simp
    · refine right_snoc h3 ⟨by simpa using Array.ne_empty_of_size_pos g, fun r => ?_, fun e => by (cases e), fun _ => h9⟩
      obtain ⟨q, q1, q2, q3⟩ := h11 r
      exact fdiv_in (q := q) r (by lia) (by simp only [Array.length_toList]; lia) (by simp only [Array.length_toList]; lia)
    · intro l hl
      rcases List.mem_append.mp hl with hl | hl
      · exact h4 l hl
      · rw [List.mem_singleton.mp hl]
        exact ⟨fun _ => by simp only [Array.length_toList]; lia, fun e => by cases e⟩
    · obtain ⟨q, q1, q2, q3⟩ := h11 r
      exact ⟨q, q1, q2, by dsimp only [List.size_toArray, List.length_nil]; simp only [List.size_toArray, List.length_nil]; lia⟩
  · rw [if_neg g]
    have e : plain = #[] := Array.eq_empty_of_size_eq_zero (by lia)
    subst e
    exact ⟨ls, h1, h2, h3, h4, h5, h6, h7, h8, h9, h10, h11⟩
theorem byteArr_rep' (c : UInt8) (n : Nat) : byteArr (List.replicate n (c.toNat : Int)) = (List.replicate n c).toArray := by
  unfold byteArr
  simp
/-- short: what is pending goes to the plain lot -/
theorem EB.short {rc : Int} {st : Enc} {ls : List Lot} {c : List UInt8} {sc : UInt8} (h : EB rc st ls c sc) (hm : st.many < 3) (hz : (st.plain.size : Int) + st.many ≤ 128) :
    EB rc { st with plain := st.plain ++ byteArr (List.replicate st.many.toNat st.same), many := 0 } ls c sc := by
  obtain ⟨h1, h2, h3, h4, h5, h6, h7, h8, h9, h10, h11⟩ := h
  obtain ⟨out, tk, plain, sm, mn⟩ := st
  dsimp only at *
  subst h5
  refine ⟨h1, ?_, h3, h4, rfl, Int.le_refl _, (by decide : (0 : Int) ≤ 128), ?_, ?_, fun q => absurd q (Int.lt_irrefl 0), fun r => ?_⟩
  · dsimp only
    rw [byteArr_rep', ← h2]
    simp
  · dsimp only
    rw [byteArr_rep']
    simp only [Array.size_append, List.size_toArray, List.length_replicate]
    lia
  · dsimp only
    rw [byteArr_rep', Array.toList_append]
    exact noThree_app h9 (by lia) (fun q => h10 (by lia))
  · obtain ⟨q, q1, q2, q3⟩ := h11 r
    refine ⟨q, q1, q2, ?_⟩
    dsimp only
    rw [byteArr_rep']
    simp only [Array.size_append, List.size_toArray, List.length_replicate]
    lia
theorem EB.cr {rc : Int} {st : Enc} {ls : List Lot} {c : List UInt8} {sc : UInt8} (h : EB rc st ls c sc) :
    ∃ ls', EB rc st.closeRun ls' c sc ∧ (0 < st.many → ∀ x, st.closeRun.plain.toList.getLast? = some x → x = sc ∧ st.many < 3) := by
  unfold Enc.closeRun crOut crPlain
  dsimp only
  by_cases g : st.many < 3
  · rw [if_pos g, if_pos g]
    have key : ∀ (p : Array UInt8), 0 < st.many → ∀ x, (p ++ byteArr (List.replicate st.many.toNat st.same)).toList.getLast? = some x → x = sc ∧ st.many < 3 := by
      intro p hm x hx
      rw [h.same, byteArr_rep', Array.toList_append] at hx
      refine ⟨?_, g⟩
      obtain ⟨k, hk⟩ : ∃ k, st.many.toNat = k + 1 := ⟨st.many.toNat - 1, by lia⟩
      rw [hk, List.replicate_succ', ← List.append_assoc, List.getLast?_concat] at hx
      exact (Option.some.inj hx).symm
    by_cases g2 : 128 < (st.plain.size : Int) + st.many
    · rw [if_pos g2, if_pos g2]
      obtain ⟨ls', h'⟩ := h.cp
      refine ⟨ls', h'.short g ?_, key _⟩
      unfold Enc.closePlain
      simp only [List.size_toArray, List.length_nil]
      lia
    · rw [if_neg g2, if_neg g2]
      exact ⟨ls, h.short g (by lia), key _⟩
  · rw [if_neg g, if_neg g]
    obtain ⟨ls', h'⟩ := h.cp
    have hl := h'.lens
    obtain ⟨h1, h2, h3, h4, h5, h6, h7, h8, h9, h10, h11⟩ := h'
    obtain ⟨out, tk, plain, sm, mn⟩ := st
    unfold Enc.closePlain at *
    dsimp only at *
    subst h5
    have eb : byteArr [257 - mn, (sc.toNat : Int)] = #[(257 - mn.toNat).toUInt8, sc] := by
      unfold byteArr
      simp
      rw [show (257 - mn).toNat = 257 - mn.toNat from by lia]
    refine ⟨ls' ++ [(true, List.replicate mn.toNat sc)], ⟨?_, ?_, ?_, ?_, rfl, Int.le_refl _, (by decide : (0 : Int) ≤ 128), Nat.zero_le _, noThree_nil, fun q => absurd q (Int.lt_irrefl 0), fun r => ?_⟩, fun _ x hx => by simp at hx⟩
    · dsimp only
      rw [encL_snoc, Array.toList_append, h1, eb]
      congr 1
      simp only [encLot, List.length_replicate]
      obtain ⟨k, hk⟩ : ∃ k, mn.toNat = k + 1 := ⟨mn.toNat - 1, by lia⟩
      rw [hk, List.replicate_succ]
      rfl
    · dsimp only
      rw [← h2]
      simp
    · refine right_snoc h3 ⟨by simp; lia, fun r => ?_, fun _ => by simp only [List.length_replicate]; lia, fun e => by cases e⟩
      obtain ⟨q, q1, q2, q3⟩ := h11 r
      simp only [List.size_toArray, List.length_nil] at hl q3
      exact fdiv_in (q := q) r (by lia) (by simp only [List.length_replicate]; lia) (by simp only [List.length_replicate]; lia)
    · intro l hl
      rcases List.mem_append.mp hl with hl | hl
      · exact h4 l hl
      · rw [List.mem_singleton.mp hl]
        exact ⟨fun e => by (cases e), fun _ => ⟨mn.toNat, sc, rfl, by lia, by lia⟩⟩
    · obtain ⟨q, q1, q2, q3⟩ := h11 r
      simp only [List.size_toArray, List.length_nil] at q3
      exact ⟨q, q1, q2, by simp only [List.size_toArray, List.length_nil]; lia⟩
theorem EB.ca {rc : Int} {st : Enc} {ls : List Lot} {c : List UInt8} {sc : UInt8} (h : EB rc st ls c sc) : ∃ ls', EB rc st.closeAll ls' c sc := by
  obtain ⟨l1, h1, _⟩ := h.cr
  exact h1.cp
/-- one octet more -/
theorem EB.push {rc : Int} {st : Enc} {ls : List Lot} {c : List UInt8} {sc : UInt8} (h : EB rc st ls c sc) (n : UInt8) (hm : st.many < 128) (hs : 0 < st.many → n = sc) (hl : st.many = 0 → ∀ x, st.plain.toList.getLast? = some x → x ≠ n) (ht : 0 < rc → st.taken < rc) :
    EB rc { st with same := (n.toNat : Int), many := st.many + 1, taken := st.taken + 1 } ls (c ++ [n]) n := by
  obtain ⟨h1, h2, h3, h4, h5, h6, h7, h8, h9, h10, h11⟩ := h
  obtain ⟨out, tk, plain, sm, mn⟩ := st
  dsimp only at *
  refine ⟨h1, ?_, h3, h4, rfl, by dsimp only; lia, by dsimp only; lia, h8, h9, fun _ => ?_, fun r => ?_⟩
  · dsimp only
    rw [show (mn + 1).toNat = mn.toNat + 1 from by lia, List.replicate_succ', ← h2]
    have e : List.replicate mn.toNat sc = List.replicate mn.toNat n := by
      by_cases g : 0 < mn
      · rw [hs g]
      · rw [show mn.toNat = 0 from by lia]; rfl
    rw [e]
    simp
  · dsimp only
    by_cases g : 0 < mn
    · rw [hs g]; exact h10 g
    · exact hl (by lia)
  · obtain ⟨q, q1, q2, q3⟩ := h11 r
    have := ht r
    refine ⟨q, ?_, by dsimp only; lia, by dsimp only; lia⟩
    simp only [List.length_append, List.length_singleton]
    push_cast
    lia
structure EI (rc : Int) (st : Enc) (c : List UInt8) : Prop where
  eb : ∃ ls sc, EB rc st ls c sc
  em : st.many = 0 → st.plain = #[]
  tk : 0 < rc → st.taken < rc
theorem EI.take {rc : Int} {st : Enc} {c : List UInt8} (h : EI rc st c) (n : UInt8) : EI rc (st.take rc (n.toNat : Int)) (c ++ [n]) := by
  obtain ⟨⟨ls, sc, h1⟩, h2, h3⟩ := h
  unfold Enc.take
  dsimp only
  -- the first half
  have key : ∀ s1 : Enc, s1.taken = st.taken → s1.many < 128 → (∃ ls' sc', EB rc s1 ls' c sc' ∧ (0 < s1.many → n = sc') ∧ (s1.many = 0 → ∀ x, s1.plain.toList.getLast? = some x → x ≠ n)) →
      EI rc (if s1.taken + 1 = rc then { (Enc.closeAll { s1 with same := (n.toNat : Int), many := s1.many + 1, taken := s1.taken + 1 }) with taken := 0 } else { s1 with same := (n.toNat : Int), many := s1.many + 1, taken := s1.taken + 1 }) (c ++ [n]) := by
    rintro s1 e1 e2 ⟨l1, sc1, b1, b2, b3⟩
    have b4 := b1.push n e2 b2 b3 (by rw [e1]; exact h3)
    have b5 := b1.many0
    by_cases g : s1.taken + 1 = rc
    · rw [if_pos g]
      obtain ⟨l2, b6⟩ := b4.ca
      refine ⟨⟨l2, n, b6.out, b6.all, b6.right, b6.wf, b6.same, b6.many0, b6.many1, b6.size, b6.three, b6.last, fun r => ?_⟩, fun _ => rfl, fun r => r⟩
      obtain ⟨q, q1, q2, q3⟩ := b6.place r
      have e9 : (Enc.closeAll { s1 with same := (n.toNat : Int), many := s1.many + 1, taken := s1.taken + 1 }).taken = s1.taken + 1 := rfl
      have e8 : (Enc.closeAll { s1 with same := (n.toNat : Int), many := s1.many + 1, taken := s1.taken + 1 }).plain = #[] := rfl
      have e7 : (Enc.closeAll { s1 with same := (n.toNat : Int), many := s1.many + 1, taken := s1.taken + 1 }).many = 0 := rfl
      rw [e9, g] at q1
      exact ⟨q + 1, by dsimp only; rw [q1, Int.add_mul]; lia, by dsimp only; lia, by dsimp only; rw [e8, e7]; decide⟩
    · rw [if_neg g]
      exact ⟨⟨l1, n, b4⟩, fun e => by dsimp only at e; lia, fun r => by have := h3 r; dsimp only; lia⟩
  have m0 := h1.many0
  have m1 := h1.many1
  by_cases g : st.many = 128 ∨ (0 < st.many ∧ (n.toNat : Int) ≠ st.same)
  · rw [if_pos g]
    obtain ⟨l1, c1, c2⟩ := h1.cr
    refine key st.closeRun rfl (by show (0 : Int) < 128; decide) ⟨l1, sc, c1, fun q => absurd q (Int.lt_irrefl 0), fun _ x hx => ?_⟩
    obtain ⟨c3, c4⟩ := c2 (by lia) x hx
    rcases g with g | ⟨_, g⟩
    · lia
    · rw [c3]
      intro e
      exact g (by rw [h1.same, e])
  · rw [if_neg g]
    refine key st rfl (by lia) ⟨ls, sc, h1, fun q => ?_, fun q x hx => ?_⟩
    · have e : (n.toNat : Int) = st.same := Classical.byContradiction fun e => g (.inr ⟨q, e⟩)
      rw [h1.same] at e
      exact UInt8.toNat_inj.mp (by lia)
    · rw [h2 q] at hx
      simp at hx
theorem EI.run {rc : Int} : ∀ (l : List UInt8) {st : Enc} {c : List UInt8}, EI rc st c → EI rc (Enc.run rc st l) (c ++ l)
  | [], _, _, h => by simpa [Enc.run] using h
  | n :: l, st, c, h => by
    have := EI.run l (h.take n)
    rw [Enc.run]
    simpa using this
theorem cpOut_app (x out plain : Array UInt8) : cpOut (x ++ out) plain = x ++ cpOut out plain := by
  unfold cpOut
  split
  · rw [← Array.append_assoc, Array.append_push]
  · rfl
theorem crOut_app (x out plain : Array UInt8) (sm mn : Int) : crOut (x ++ out) plain sm mn = x ++ crOut out plain sm mn := by
  unfold crOut
  repeat' split
  · exact cpOut_app x out plain
  · rfl
  · rw [cpOut_app, Array.append_assoc]
theorem fin_app (x : Array UInt8) (st : Enc) : Enc.fin { st with out := x ++ st.out } = x ++ Enc.fin st := by
  unfold Enc.fin
  dsimp only
  rw [crOut_app, cpOut_app, Array.append_push]
theorem run_fin (st : Enc) : st.out ++ Enc.fin { st with out := #[] } = st.closeAll.out.push 128 := by
  rw [← fin_app]
  simp only [Array.append_empty]
  rfl
/-- what the encoder writes is right, and is read back -/
theorem enc_good (rc : Int) (b : Array UInt8) : ∃ ls, (∀ r, lotsL ((encBytes rc b).toList ++ r) = some (ls, some r)) ∧ (ls.map (·.2)).flatten = b.toList ∧ Right rc ls ∧ (encBytes rc b).size ≤ 2 * b.size + 1 := by
  have h0 : EI rc ⟨#[], 0, #[], 0, 0⟩ [] := ⟨⟨[], 0, rfl, rfl, fun i l h => by simp at h, fun l h => (nomatch h), rfl, Int.le_refl _, by decide, Nat.zero_le _, noThree_nil, fun h => absurd h (by decide), fun r => ⟨0, by simp, by dsimp only; lia, by decide⟩⟩, fun _ => rfl, fun r => r⟩
  have h1 := EI.run b.toList h0
  rw [List.nil_append] at h1
  obtain ⟨⟨l1, sc, h2⟩, _, _⟩ := h1
  obtain ⟨ls, h3⟩ := h2.ca
  have e : encBytes rc b = (Enc.run rc ⟨#[], 0, #[], 0, 0⟩ b.toList).closeAll.out.push 128 := run_fin _
  have e2 : (encBytes rc b).toList = encLs ls ++ [128] := by
    rw [e, Array.toList_push, h3.out]
  have e3 : (ls.map (·.2)).flatten = b.toList := by
    have := h3.all
    have e8 : (Enc.closeAll (Enc.run rc ⟨#[], 0, #[], 0, 0⟩ b.toList)).plain = #[] := rfl
    have e7 : (Enc.closeAll (Enc.run rc ⟨#[], 0, #[], 0, 0⟩ b.toList)).many = 0 := rfl
    rw [e8, e7] at this
    simpa using this
  refine ⟨ls, fun r => ?_, e3, h3.right, ?_⟩
  · rw [e2, List.append_assoc]
    exact lots_enc ls r h3.wf
  · have := encL_len h3.wf
    have e8 : b.toList.length = b.size := Array.length_toList
    rw [e3, e8] at this
    have e9 : (encBytes rc b).size = (encLs ls).length + 1 := by
      have := congrArg List.length e2
      rw [List.length_append, List.length_singleton] at this
      exact this
    lia
theorem closeRun_out (x : Array UInt8) (st : Enc) : Enc.closeRun { st with out := x ++ st.out } = { st.closeRun with out := x ++ st.closeRun.out } := by
  unfold Enc.closeRun
  dsimp only
  rw [crOut_app]
theorem closeAll_out (x : Array UInt8) (st : Enc) : Enc.closeAll { st with out := x ++ st.out } = { st.closeAll with out := x ++ st.closeAll.out } := by
  unfold Enc.closeAll
  rw [closeRun_out]
  unfold Enc.closePlain
  dsimp only
  rw [cpOut_app]
theorem enc_take_out (rc : Int) (x : Array UInt8) (st : Enc) (n : Int) : Enc.take rc { st with out := x ++ st.out } n = { Enc.take rc st n with out := x ++ (Enc.take rc st n).out } := by
  unfold Enc.take
  dsimp only
  by_cases g : st.many = 128 ∨ (0 < st.many ∧ n ≠ st.same)
  · rw [if_pos g, if_pos g, closeRun_out]
    dsimp only
    by_cases g2 : st.closeRun.taken + 1 = rc
    · rw [if_pos g2, if_pos g2]
      have := closeAll_out x { st.closeRun with same := n, many := st.closeRun.many + 1, taken := st.closeRun.taken + 1 }
      dsimp only at this
      rw [this]
    · rw [if_neg g2, if_neg g2]
  · rw [if_neg g, if_neg g]
    dsimp only
    by_cases g2 : st.taken + 1 = rc
    · rw [if_pos g2, if_pos g2]
      have := closeAll_out x { st with same := n, many := st.many + 1, taken := st.taken + 1 }
      dsimp only at this
      rw [this]
    · rw [if_neg g2, if_neg g2]
theorem enc_out (rc : Int) : ∀ (l : List UInt8) (st : Enc) (x : Array UInt8), Enc.run rc { st with out := x ++ st.out } l = { Enc.run rc st l with out := x ++ (Enc.run rc st l).out }
  | [], st, x => rfl
  | c :: l, st, x => by
    rw [Enc.run, Enc.run, enc_take_out, enc_out rc l]
/-- a piece more -/
theorem enc_step (rc : Int) (D : Enc) (p : List UInt8) : Enc.run rc D p = { Enc.run rc { D with out := #[] } p with out := D.out ++ (Enc.run rc { D with out := #[] } p).out } := by
  have := enc_out rc p { D with out := #[] } D.out
  rw [← this]
  simp
theorem enc_append (rc : Int) : ∀ (a b : List UInt8) (st : Enc), Enc.run rc st (a ++ b) = Enc.run rc (Enc.run rc st a) b
  | [], b, st => rfl
  | c :: a, b, st => by rw [List.cons_append, Enc.run, enc_append rc a b]; rfl
end
section
theorem begins_L8 : True := by
  w_top off
  exact trivial
open Sem (wp)
local macro_rules | `(tactic| walk_at "subscriptTail") => `(tactic| (k_here; (with_reducible show wpAny _ _ (subscriptTail (Expr.List _ _) _ (Value.ref _) (Value.int _ _)) _ _ _); k_dflt (first | (refine' item_int (b := 10) ?l ?i ?r ?h0 ?h1 ?z ?_ ?s; (case s => with_unfolding_all rfl); (case l => exact News.isList (by k_asm) (by k_mem)); (case i => walk_at "intsB"); (case r => walk_at "inB"); (case h0 => walk_at "om"); (case h1 => (simp only [List.length_cons, List.length_nil]; walk_at "om")); (case z => (simp only [List.length_cons, List.length_nil]; walk_at "om")))); intro n9 t9 hn9))
local macro_rules | `(tactic| walk_at "eval ListComp") => `(tactic| (k_here; k_dflt (refine' ListComp_A (cl := []) ?F ?_ ?c1 ?c2 ?c3 ?c4 ?c5 ?c6; (case c6 => (intro _; exact rfl)); (case F => k_asm); (case c1 => exact rfl); (case c2 => decide); (case c3 => exact rfl); (case c4 => decide); (case c5 => exact rfl))))
local macro_rules | `(tactic| walk_at "call builtin:bytes.join") => `(tactic| (k_here; (with_reducible show wpAny _ _ (call (Value.builtin "bytes.join") [Value.bytes _ _, Value.ref _]) _ _ _); k_dflt (refine' join_by (News.isList (by k_asm) (by k_mem)) ?bb ?zz ?_; (case bb => assumption); (case zz => assumption)); intro t9 k9))
local macro_rules | `(tactic| walk_at "getMethod bytes") => `(tactic| (k_here; (with_reducible show wpAny _ _ (getMethod (Value.bytes _ _) (Str.ofString "join") _) _ _ _); (refine getMethod_join ?_)))
local macro_rules | `(tactic| walk_at "subscriptTail") => `(tactic| (k_here; (with_reducible show wpAny _ _ (subscriptTail (Expr.Name _ _) (Expr.Call _ _ _ _) (Value.ref _) (Value.int _ _)) _ _ _); k_dflt (first | (refine' item_int (b := 256) ?l ?i ?r ?h0 ?h1 ?z ?_ ?s; (case s => with_unfolding_all rfl); (case l => exact News.isList (by k_asm) (by k_mem)); (case i => walk_at "intsB"); (case r => decide); (case h0 => walk_at "om"); (case h1 => (simp only [List.length_cons, List.length_nil]; walk_at "om")); (case z => (simp only [List.length_cons, List.length_nil]; walk_at "om")))); intro n9 t9 hn9))
theorem perm_lots {α : Type} {D f : α} {l os : List α} : List.Perm (D :: f :: (l ++ os)) ((f :: os) ++ (D :: l)) :=
  (List.Perm.swap f D (l ++ os)).trans (.cons f (List.perm_append_comm (l₁ := D :: l) (l₂ := os)))
/-- where two ways of one statement meet -/
def EndP (P : Flow → Shared → Prop) (fl : Flow) (s : Shared) : Prop := P fl s
theorem nd_before {l1 l2 : List Nat} {a : Nat} (h : (l1 ++ a :: l2).Nodup) : ∀ y ∈ l1, y ≠ a :=
  fun y hy => (List.nodup_append.mp h).2.2 y hy a (.head _)
theorem nodup_of_fresh {h₀ h : Heap} {L a1 a2 a3 : Addr} {q1 q2 q3 : Obj} (N : News h₀ L h [(a1, q1), (a2, q2), (a3, q3)]) (hn : [a1, a2, a3].Nodup) : (([(a1, q1), (a2, q2), (a3, q3)] : List (Addr × Obj)).map (·.1)).Nodup := hn
theorem law_post (ns : List Int) : PySem.Challenge.rw_nt0489_01.row.claim.post [ofPy (.list (ns.map .int))] (.bool true) [ofPy (.list (ns.map .int))] = true :=
  postW_of (by wrow_shape) (by wtm_val) (by str_meet; first | done | w_fin)
theorem law_holds : PySem.Challenge.rw_nt0489_01.Holds := hdH rfl rfl rfl (by
  intro w s₀ s₁ mg mb G Y fa o pm cd doc dV kV ho hd hcd hD hmg hg args vals as hpre hlay hrd hwl hlo
  have X := kIn_of Y
  refine Ground.open G ?_
  intro T B D TE TW
  wrow_args hpre hlay hrd hwl hlo
  have he := Dflts.none hD rfl
  subst he
  rename IntsAre _ _ => hI
  rename Heap.IsList _ _ _ => hL
  rename ¬ _ < _ => hlen
  clear B D TE TW Y
  revert X; k_fill; intro X
  refine' def_TopC (binds := [(Str.ofString "script", .ref _)]) T ho hd hcd (BindsTo.of_eq rfl) ?kB ?kC ?_ rfl rfl rfl
  case kB => exact fun n => kinds_of ⟨.inl rfl, trivial⟩
  case kC => (try dsimp only [docDef, fnOf]); decide
  intro L' h' tk0 cells F' N' Y
  obtain ⟨q1, q2, q3, rfl, hq1, hq2, hq3⟩ := PyProof.Rows.CellsAre.three Y
  replace hq1 : q1.data = .cell none := hq1
  replace hq2 : q2.data = .cell none := hq2
  replace hq3 : q3.data = .cell none := hq3
  clear Y
  replace F' : Fr s₁.heap L' h' (fun y => if y = Str.ofString "script" then some (.ref _) else none) := F'
  dsimp only [docDef]
  have B' : Below callerA s₁.heap [] s₁.heap := below_caller _
  have hA : callerA.frames = some [] := rfl
  have hh : callerA.handled = none := rfl
  have hdp : callerA.depth + 100 < recursionLimit := by decide
  have hun : callerA.units + 1000 < cLine := by decide
  generalize callerA = A at *
  (repeat' (first | (k_unfold; (try dsimp only)) | (first | (with_reducible first | ((show (_ : Flow → Shared → Prop) _ _); rename Flow → Shared → Prop => K9; rename KR K9 _ => kr9; rename KN K9 _ => kn9; (first | refine kn9 _ ?_ | refine kr9.ret _ _ ?_ | refine kr9.brk _ ?_ | refine kr9.cont _ ?_); clear kn9 kr9 K9; (try dsimp only)) | ((show (_ : Flow → Shared → Prop) _ _); (first | refine kn_go (by assumption) ?_ | refine kr_go (by assumption) ?_); (try dsimp only)) | ((show (_ : Bool → Shared → Prop) _ _); rename Bool → Shared → Prop => K9; rename KT K9 _ => kb9; refine kb9 _ _ ?_; clear kb9 K9; (try dsimp only)))) | ((with_reducible show wpC _ _ _ _ _ _); (first | (((with_reducible show wpC _ _ (execs (_ :: _) _) _ _ _); refine execs_cons_G ?_; intro _ _ _)) | (((with_reducible show wpC _ _ (exec (Stmt.Assign [Expr.Name _ _] (Expr.Call _ _ _ _) _) _) _ _ _); refine exec_AssignName_C ?_)) | (((with_reducible show wpC _ _ (eval (Expr.Call (Expr.Name _ _) _ _ _) _) _ _ _); refine eval_CallName_C ?_)) | (((with_reducible show wpC _ _ (callWith _ (Value.ref _) _ _ _) _ _ _); first | (refine' callWith_CK0 ?zqk1 ?zqk2 ?_; (case zqk1 => k_in); (case zqk2 => k_is)) | (refine' callWith_CK ?zqk1 ?zqk2 ?_; (case zqk1 => k_asm); (case zqk2 => k_is)))))) | (dsimp only; (with_reducible show wpC _ _ _ _ _ _)) | ((fail_if_success (with_reducible show wpC _ _ _ _ _ _)); (first | walk1 | (dsimp only; walk1)))))
  have nd0 : (([(_, q1), (_, q2), (_, q3)] : List (Addr × Obj)).map (·.1)).Nodup := nodup_of_fresh N' (by simp; lia)
  refine wpC_call (deck w hI (by lia) B' F' X ⟨N', nd0⟩ T (by simp only [Around.deeper, hA, Option.map_some]; rfl) rfl rfl hh (by show A.depth + 1 + 10 < _; lia) (by show A.units + 3 + 8 * 10 < _; lia) hL (fun d c o1 t vs' ns' cap h1 tk1 F1 N1 nd1 hC hd0 lo => ?_))
  clear F' N'
  dsimp only
  have nb := nd_before (l1 := [d, c, L' + 1 + 1 + 1, L' + 1 + 1]) nd1
  have na1 := nb _ (.head _)
  have na2 := nb _ (.tail _ (.head _))
  have na3 := nb _ (.tail _ (.tail _ (.head _)))
  have na4 := nb _ (.tail _ (.tail _ (.tail _ (.head _))))
  clear nb
  (repeat' (first | (k_unfold; (try dsimp only)) | (first | (with_reducible first | ((show (_ : Flow → Shared → Prop) _ _); rename Flow → Shared → Prop => K9; rename KR K9 _ => kr9; rename KN K9 _ => kn9; (first | refine kn9 _ ?_ | refine kr9.ret _ _ ?_ | refine kr9.brk _ ?_ | refine kr9.cont _ ?_); clear kn9 kr9 K9; (try dsimp only)) | ((show (_ : Flow → Shared → Prop) _ _); (first | refine kn_go (by assumption) ?_ | refine kr_go (by assumption) ?_); (try dsimp only)) | ((show (_ : Bool → Shared → Prop) _ _); rename Bool → Shared → Prop => K9; rename KT K9 _ => kb9; refine kb9 _ _ ?_; clear kb9 K9; (try dsimp only)))) | ((with_reducible show wpC _ _ _ _ _ _); (first | (((with_reducible show wpC _ _ (eval (Expr.List _ _) _) _ _ _); refine eval_List_C ?_)) | (((with_reducible show wpC _ _ (eval (Expr.Subscript _ (Expr.Call _ _ _ _) _) _) _ _ _); refine eval_Subscript_CC ?_)) | (((with_reducible show wpC _ _ (exec (Stmt.Assign [Expr.Name _ _] (Expr.Subscript _ _ _) _) _) _ _ _); refine exec_AssignName_C ?_)) | (((with_reducible show wpC _ _ (eval (Expr.Constant _ _ _) _) _ _ _); refine wpC_any ?_)) | (((with_reducible show wpC _ _ (ite (false = true) _ _) _ _ _); refine wpC_ite_f Bool.false_ne_true ?_)) | (((with_reducible show wpC _ _ (spliced _) _ _ _); show wpC _ _ (spliced ((false, _) :: _)) _ _ _; refine spliced_cons_C ?_)) | (((with_reducible show wpC _ _ (spliced _) _ _ _); show wpC _ _ (spliced []) _ _ _; refine spliced_nil_C ?_)) | (((with_reducible show wpC _ _ (execs (_ :: _) _) _ _ _); refine execs_cons_G ?_; intro _ _ _)) | (((with_reducible show wpC _ _ (eval (Expr.Call (Expr.Name _ _) _ _ _) _) _ _ _); refine eval_CallName_C ?_)) | (((with_reducible show wpC _ _ (callWith _ (Value.ref _) _ _ _) _ _ _); first | (refine' callWith_CK0 ?zqk1 ?zqk2 ?_; (case zqk1 => k_in); (case zqk2 => k_is)) | (refine' callWith_CK ?zqk1 ?zqk2 ?_; (case zqk1 => k_asm); (case zqk2 => k_is)))))) | (dsimp only; (with_reducible show wpC _ _ _ _ _ _)) | ((fail_if_success (with_reducible show wpC _ _ _ _ _ _)); (first | walk1 | (dsimp only; walk1)))))
  rename_i h2 o2 hq3' _ _ _ lr h3 F3 N3 lz
  refine' use_drawP (rest := (lr, _) :: (L' + 1 + 1 + 1, q1) :: (L' + 1 + 1, q2) :: (L' + 1, o2) :: []) ((List.perm_append_comm (l₁ := [_]) (l₂ := [_, _])).append_right _) N3 ?nd hC hd0 lo (by lia) (by lia) (by lia) (by lia) F3 B' X T hA rfl rfl hh (by (first | exact room2 (by assumption) (by decide) | exact room3 (by assumption) (by decide) | walk_at "om")) (by (first | exact room2 (by assumption) (by decide) | exact room3 (by assumption) (by decide) | walk_at "om")) ?_
  case nd => exact nodup_push (allLt_ne (show AllLt lr [(d, o1), (c, W.listOf vs'.toArray cap), (L' + 1 + 1 + 1, q1), (L' + 1 + 1, q2), (L' + 1, o2)] from ⟨lz.1, lz.2.1, lz.2.2.1, lz.2.2.2.1, lz.2.2.2.2, trivial⟩)) nd1
  intro x9 t9 t8 o9 h4 tk4 F4 N4 nd4 hx9 hd9
  clear F3 N3
  dsimp only
  (repeat' (first | (k_unfold; (try dsimp only)) | (first | (with_reducible first | ((show (_ : Flow → Shared → Prop) _ _); rename Flow → Shared → Prop => K9; rename KR K9 _ => kr9; rename KN K9 _ => kn9; (first | refine kn9 _ ?_ | refine kr9.ret _ _ ?_ | refine kr9.brk _ ?_ | refine kr9.cont _ ?_); clear kn9 kr9 K9; (try dsimp only)) | ((show (_ : Flow → Shared → Prop) _ _); (first | refine kn_go (by assumption) ?_ | refine kr_go (by assumption) ?_); (try dsimp only)) | ((show (_ : Bool → Shared → Prop) _ _); rename Bool → Shared → Prop => K9; rename KT K9 _ => kb9; refine kb9 _ _ ?_; clear kb9 K9; (try dsimp only)))) | ((with_reducible show wpC _ _ _ _ _ _); (first | (((with_reducible show wpC _ _ (execs (_ :: _) _) _ _ _); refine execs_cons_G ?_; intro _ _ _)) | (((with_reducible show wpC _ _ (exec (Stmt.Assign [Expr.Name _ _] (Expr.Call _ _ _ _) _) _) _ _ _); refine exec_AssignName_C ?_)) | (((with_reducible show wpC _ _ (eval (Expr.Call (Expr.Name _ _) _ _ _) _) _ _ _); refine eval_CallName_C ?_)) | (((with_reducible show wpC _ _ (callWith _ (Value.ref _) _ _ _) _ _ _); first | (refine' callWith_CK0 ?zqk1 ?zqk2 ?_; (case zqk1 => k_in); (case zqk2 => k_is)) | (refine' callWith_CK ?zqk1 ?zqk2 ?_; (case zqk1 => k_asm); (case zqk2 => k_is)))))) | (dsimp only; (with_reducible show wpC _ _ _ _ _ _)) | ((fail_if_success (with_reducible show wpC _ _ _ _ _ _)); (first | walk1 | (dsimp only; walk1)))))
  rename News _ _ _ _ => N5
  rename Fr _ _ _ _ => F5
  rename (0 : Int) ≤ _ ∧ _ < (10 : Int) => hrc
  rename_i rc trc h5 _ _ _
  refine use_ctr2 (octets w hC hd9 lo (by walk_at "om") (by walk_at "om")) F5 N5 nd4 B' X T hA rfl rfl hh (by (first | exact room2 (by assumption) (by decide) | exact room3 (by assumption) (by decide) | walk_at "om")) (by (first | exact room2 (by assumption) (by decide) | exact room3 (by assumption) (by decide) | walk_at "om")) ?_
  rintro v6 h6 tk6 l6 F6 N6 nd6 ⟨b, tb, t6, o6, at6, rfl, hb6, ⟨ha6, hz6⟩, hd6, rfl⟩
  simp only [List.cons_append, List.nil_append] at N6 nd6
  clear N5 F5
  (repeat' (first | (k_unfold; (try dsimp only)) | (first | (with_reducible first | ((show (_ : Flow → Shared → Prop) _ _); rename Flow → Shared → Prop => K9; rename KR K9 _ => kr9; rename KN K9 _ => kn9; (first | refine kn9 _ ?_ | refine kr9.ret _ _ ?_ | refine kr9.brk _ ?_ | refine kr9.cont _ ?_); clear kn9 kr9 K9; (try dsimp only)) | ((show (_ : Flow → Shared → Prop) _ _); (first | refine kn_go (by assumption) ?_ | refine kr_go (by assumption) ?_); (try dsimp only)) | ((show (_ : Bool → Shared → Prop) _ _); rename Bool → Shared → Prop => K9; rename KT K9 _ => kb9; refine kb9 _ _ ?_; clear kb9 K9; (try dsimp only)))) | ((fail_if_success (with_reducible show wpC _ _ _ _ _ _)); (first | walk1 | (dsimp only; walk1)))))
  refine execs_cons_C ?_
  refine wpC_mono (Q := EndP fun fl s' => ∃ b9 tb9 h9 tk9 m9, fl = .next ∧ b9.size ≤ 200 ∧ s' = { s₁ with heap := h9, toks := tk9 } ∧ m9 (Str.ofString "octets") = some (.bytes b9 tb9) ∧ m9 (Str.ofString "record") = some (.int rc trc) ∧ Fr s₁.heap L' h9 m9 ∧ News s₁.heap L' h9 ((d, o6) :: (c, W.listOf vs'.toArray cap) :: (L' + 1 + 1 + 1, q1) :: (L' + 1 + 1, q2) :: (L' + 1, o2) :: [])) (E := fun _ _ => False) ?wa (fun fl s' hP => ?wb) (fun _ _ h => h.elim)
  case wa =>
    (repeat' (first | (k_unfold; (try dsimp only)) | (first | (with_reducible first | ((show (_ : Flow → Shared → Prop) _ _); rename Flow → Shared → Prop => K9; rename KR K9 _ => kr9; rename KN K9 _ => kn9; (first | refine kn9 _ ?_ | refine kr9.ret _ _ ?_ | refine kr9.brk _ ?_ | refine kr9.cont _ ?_); clear kn9 kr9 K9; (try dsimp only)) | ((show (_ : Flow → Shared → Prop) _ _); (first | refine kn_go (by assumption) ?_ | refine kr_go (by assumption) ?_); (try dsimp only)) | ((show (_ : Bool → Shared → Prop) _ _); rename Bool → Shared → Prop => K9; rename KT K9 _ => kb9; refine kb9 _ _ ?_; clear kb9 K9; (try dsimp only)))) | ((with_reducible show wpC _ _ _ _ _ _); (first | (((with_reducible show wpC _ _ (exec _ _) _ _ _); refine wpC_any ?_)))) | (dsimp only; (with_reducible show wpC _ _ _ _ _ _)) | ((fail_if_success (with_reducible show wpC _ _ _ _ _ _)); (first | walk1 | (dsimp only; walk1)))))
    all_goals
      rename News _ _ _ _ => N7
      rename Fr _ _ _ _ => F7
    · exact ⟨_, _, _, _, _, rfl, hb6, rfl, rfl, rfl, F7, news_sub N7 (by ((intro y hy; simp only [List.cons_append, List.nil_append, List.mem_cons, List.mem_append, List.not_mem_nil, or_false] at hy ⊢; (repeat' (rcases hy with hy | hy)); all_goals (rename _ = _ => hy9; simp only [hy9, true_or, or_true]))))⟩
    · exact ⟨_, _, _, _, _, rfl, by lia, rfl, rfl, rfl, F7, news_sub N7 (by ((intro y hy; simp only [List.cons_append, List.nil_append, List.mem_cons, List.mem_append, List.not_mem_nil, or_false] at hy ⊢; (repeat' (rcases hy with hy | hy)); all_goals (rename _ = _ => hy9; simp only [hy9, true_or, or_true]))))⟩
  case wb =>
    obtain ⟨b, tb, h7, tk7, m7, rfl, hb7, rfl, hm1, hm2, F7, N7⟩ := hP
    clear hb6
    dsimp only
    have nd7 : (((d, o6) :: (c, W.listOf vs'.toArray cap) :: (L' + 1 + 1 + 1, q1) :: (L' + 1 + 1, q2) :: (L' + 1, o2) :: []).map (·.1)).Nodup := nd1
    (repeat' (first | (k_unfold; (try dsimp only)) | (first | (with_reducible first | ((show (_ : Flow → Shared → Prop) _ _); rename Flow → Shared → Prop => K9; rename KR K9 _ => kr9; rename KN K9 _ => kn9; (first | refine kn9 _ ?_ | refine kr9.ret _ _ ?_ | refine kr9.brk _ ?_ | refine kr9.cont _ ?_); clear kn9 kr9 K9; (try dsimp only)) | ((show (_ : Flow → Shared → Prop) _ _); (first | refine kn_go (by assumption) ?_ | refine kr_go (by assumption) ?_); (try dsimp only)) | ((show (_ : Bool → Shared → Prop) _ _); rename Bool → Shared → Prop => K9; rename KT K9 _ => kb9; refine kb9 _ _ ?_; clear kb9 K9; (try dsimp only)))) | ((with_reducible show wpC _ _ _ _ _ _); (first | ((with_reducible show wpC _ _ (exec (Stmt.Assign [Expr.Tuple _ _ _] (Expr.Tuple _ _ _) _) _) _ _ _); (refine exec_AssignTup_C ?_)) | (((with_reducible show wpC _ _ (callWith _ (Value.type _) _ (backTo _ (starEach (_ :: _) _)) _) _ _ _); refine callWith_CT ?_)) | (((with_reducible show wpC _ _ (eval (Expr.Tuple _ _ _) _) _ _ _); refine eval_Tuple_C ?_)) | (((with_reducible show wpC _ _ (ite (false = true) _ _) _ _ _); refine wpC_ite_f Bool.false_ne_true ?_)) | (((with_reducible show wpC _ _ (spliced _) _ _ _); show wpC _ _ (spliced ((false, _) :: _)) _ _ _; refine spliced_cons_C ?_)) | (((with_reducible show wpC _ _ (execs (_ :: _) _) _ _ _); refine execs_cons_G ?_; intro _ _ _)) | (((with_reducible show wpC _ _ (eval (Expr.Call (Expr.Name _ _) _ _ _) _) _ _ _); refine eval_CallName_C ?_)) | (((with_reducible show wpC _ _ (callWith _ (Value.ref _) _ _ _) _ _ _); first | (refine' callWith_CK0 ?zqk1 ?zqk2 ?_; (case zqk1 => k_in); (case zqk2 => k_is)) | (refine' callWith_CK ?zqk1 ?zqk2 ?_; (case zqk1 => k_asm); (case zqk2 => k_is)))))) | (dsimp only; (with_reducible show wpC _ _ _ _ _ _)) | ((fail_if_success (with_reducible show wpC _ _ _ _ _ _)); (first | walk1 | (dsimp only; walk1)))))
    refine use_ctr2 (encoded w (by walk_at "om")) F7 N7 nd7 B' X T hA rfl rfl hh (by (first | exact room2 (by assumption) (by decide) | exact room3 (by assumption) (by decide) | walk_at "om")) (by (first | exact room2 (by assumption) (by decide) | exact room3 (by assumption) (by decide) | walk_at "om")) ?_
    rintro v8 h8 tk8 l8 F8 N8 nd8 ⟨rfl, t8, rfl⟩
    simp only [List.nil_append] at N8 nd8
    clear F7 N7 nd7
    (repeat' (first | (k_unfold; (try dsimp only)) | (first | (with_reducible first | ((show (_ : Flow → Shared → Prop) _ _); rename Flow → Shared → Prop => K9; rename KR K9 _ => kr9; rename KN K9 _ => kn9; (first | refine kn9 _ ?_ | refine kr9.ret _ _ ?_ | refine kr9.brk _ ?_ | refine kr9.cont _ ?_); clear kn9 kr9 K9; (try dsimp only)) | ((show (_ : Flow → Shared → Prop) _ _); (first | refine kn_go (by assumption) ?_ | refine kr_go (by assumption) ?_); (try dsimp only)) | ((show (_ : Bool → Shared → Prop) _ _); rename Bool → Shared → Prop => K9; rename KT K9 _ => kb9; refine kb9 _ _ ?_; clear kb9 K9; (try dsimp only)))) | ((with_reducible show wpC _ _ _ _ _ _); (first | (((with_reducible show wpC _ _ (call (Value.type "bytes") _ _) _ _ _); refine wpC_any ?_)) | (((with_reducible show wpC _ _ (ite (false = true) _ _) _ _ _); refine wpC_ite_f Bool.false_ne_true ?_)) | (((with_reducible show wpC _ _ (spliced _) _ _ _); show wpC _ _ (spliced ((false, _) :: _)) _ _ _; refine spliced_cons_C ?_)) | (((with_reducible show wpC _ _ (spliced _) _ _ _); show wpC _ _ (spliced []) _ _ _; refine spliced_nil_C ?_)) | (((with_reducible show wpC _ _ (eval (Expr.Call (Expr.Name _ _) _ _ _) _) _ _ _); refine eval_CallName_C ?_)) | (((with_reducible show wpC _ _ (callWith _ (Value.ref _) _ _ _) _ _ _); first | (refine' callWith_CK0 ?zqk1 ?zqk2 ?_; (case zqk1 => k_in); (case zqk2 => k_is)) | (refine' callWith_CK ?zqk1 ?zqk2 ?_; (case zqk1 => k_asm); (case zqk2 => k_is)))))) | (dsimp only; (with_reducible show wpC _ _ _ _ _ _)) | ((fail_if_success (with_reducible show wpC _ _ _ _ _ _)); (first | walk1 | (dsimp only; walk1)))))
    refine use_makeE F8 N8 nd8 B' X T hA rfl rfl hh (by (first | exact room2 (by assumption) (by decide) | exact room3 (by assumption) (by decide) | walk_at "om")) (by (first | exact room2 (by assumption) (by decide) | exact room3 (by assumption) (by decide) | walk_at "om")) ?_
    intro x9 h9 tk9 dx ob pb k1 F9 N9 nd9 _ _ _ _ _ _ _ _
    clear F8 N8 nd8
    have nb := nd_before (l1 := [x9, dx, ob, pb, d, c, L' + 1 + 1 + 1]) nd9
    have nc1 := nb _ (.head _)
    have nc2 := nb _ (.tail _ (.head _))
    have nc3 := nb _ (.tail _ (.tail _ (.head _)))
    have nc4 := nb _ (.tail _ (.tail _ (.tail _ (.head _))))
    have nc5 := nb _ (.tail _ (.tail _ (.tail _ (.tail _ (.head _)))))
    have nc6 := nb _ (.tail _ (.tail _ (.tail _ (.tail _ (.tail _ (.head _))))))
    have nc7 := nb _ (.tail _ (.tail _ (.tail _ (.tail _ (.tail _ (.tail _ (.head _)))))))
    clear nb
    (repeat' (first | (k_unfold; (try dsimp only)) | (first | (with_reducible first | ((show (_ : Flow → Shared → Prop) _ _); rename Flow → Shared → Prop => K9; rename KR K9 _ => kr9; rename KN K9 _ => kn9; (first | refine kn9 _ ?_ | refine kr9.ret _ _ ?_ | refine kr9.brk _ ?_ | refine kr9.cont _ ?_); clear kn9 kr9 K9; (try dsimp only)) | ((show (_ : Flow → Shared → Prop) _ _); (first | refine kn_go (by assumption) ?_ | refine kr_go (by assumption) ?_); (try dsimp only)) | ((show (_ : Bool → Shared → Prop) _ _); rename Bool → Shared → Prop => K9; rename KT K9 _ => kb9; refine kb9 _ _ ?_; clear kb9 K9; (try dsimp only)))) | ((with_reducible show wpC _ _ _ _ _ _); (first | (((with_reducible show wpC _ _ (spliced _) _ _ _); show wpC _ _ (spliced []) _ _ _; refine spliced_nil_C ?_)) | (((with_reducible show wpC _ _ (execs (_ :: _) _) _ _ _); refine execs_cons_G ?_; intro _ _ _)) | (((with_reducible show wpC _ _ (exec (Stmt.Assign [Expr.Name _ _] (Expr.Call _ _ _ _) _) _) _ _ _); refine exec_AssignName_C ?_)) | (((with_reducible show wpC _ _ (eval (Expr.Call (Expr.Name _ _) _ _ _) _) _ _ _); refine eval_CallName_C ?_)) | (((with_reducible show wpC _ _ (callWith _ (Value.ref _) _ _ _) _ _ _); first | (refine' callWith_CK0 ?zqk1 ?zqk2 ?_; (case zqk1 => k_in); (case zqk2 => k_is)) | (refine' callWith_CK ?zqk1 ?zqk2 ?_; (case zqk1 => k_asm); (case zqk2 => k_is)))))) | (dsimp only; (with_reducible show wpC _ _ _ _ _ _)) | ((fail_if_success (with_reducible show wpC _ _ _ _ _ _)); (first | walk1 | (dsimp only; walk1)))))
    rename News _ _ _ _ => N10
    rename Fr _ _ _ _ => F10
    rename_i D10 _ l10 _ _ h10 oc hoc _ _ _
    have N11 := drop1 N10
    clear N10
    ((repeat (rename ¬ _ = _ => hc9; clear hc9)))
    obtain ⟨ls, g1, g2, g3, g4⟩ := enc_good rc b
    have g5 := g1 []
    rw [List.append_nil] at g5
    generalize hwr : encBytes rc b = wr at *
    refine use_lots0 (by walk_at "om") F10 N11 nd9 B' X T hA rfl rfl hh (by (first | exact room2 (by assumption) (by decide) | exact room3 (by assumption) (by decide) | walk_at "om")) (by (first | exact room2 (by assumption) (by decide) | exact room3 (by assumption) (by decide) | walk_at "om")) ?none ?some
    case none =>
      intro hn _ _ _ _
      rw [hn] at g5
      cases g5
    case some =>
      intro ls' r D f vs1 cap1 os x h12 tk12 hl hlo hr F12 N12 nd12
      obtain ⟨e1, e2⟩ := Prod.mk.inj (Option.some.inj (hl.symm.trans g5))
      subst e1 e2
      obtain ⟨tr, rfl⟩ : ∃ t, x = .int (wr.size : Int) t := by
        rcases hr with ⟨h, _⟩ | ⟨r', t, h, rfl⟩
        · cases h
        · cases h
          exact ⟨t, by simp⟩
      clear hr hl
      simp only [List.cons_append, List.nil_append] at N12
      clear F10 N11
      have e9 : b.toList.length = b.size := Array.length_toList
      have e8 : wr.toList.length = wr.size := Array.length_toList
      have hll : ls'.length ≤ 10000 := Nat.le_trans (lots_len wr.toList.length wr.toList (Nat.le_refl _) ls' _ g5).1 (by lia)
      have hlen := hlo.1
      have hvl : vs1.length ≤ 10000 := by rw [hlen]; exact hll
      have zz : ((ls'.map (·.2)).flatten).length ≤ 16777216 := by rw [g2]; lia
      (repeat' (first | (k_unfold; (try dsimp only)) | (first | (with_reducible first | ((show (_ : Flow → Shared → Prop) _ _); rename Flow → Shared → Prop => K9; rename KR K9 _ => kr9; rename KN K9 _ => kn9; (first | refine kn9 _ ?_ | refine kr9.ret _ _ ?_ | refine kr9.brk _ ?_ | refine kr9.cont _ ?_); clear kn9 kr9 K9; (try dsimp only)) | ((show (_ : Flow → Shared → Prop) _ _); (first | refine kn_go (by assumption) ?_ | refine kr_go (by assumption) ?_); (try dsimp only)) | ((show (_ : Bool → Shared → Prop) _ _); rename Bool → Shared → Prop => K9; rename KT K9 _ => kb9; refine kb9 _ _ ?_; clear kb9 K9; (try dsimp only)))) | ((with_reducible show wpC _ _ _ _ _ _); (first | (((with_reducible show wpC _ _ (execs (_ :: _) _) _ _ _); refine execs_cons_G ?_; intro _ _ _)) | (((with_reducible show wpC _ _ (exec (Stmt.If _ _ _ _) _) _ _ _); refine exec_If_G ?_; intro _ _)) | (((with_reducible show wpC _ _ (exec _ _) _ _ _); refine wpC_any ?_)))) | (dsimp only; (with_reducible show wpC _ _ _ _ _ _)) | ((fail_if_success (with_reducible show wpC _ _ _ _ _ _)); (first | walk1 | (dsimp only; walk1)))))
      · rename _ ≠ _ => hb9
        exact absurd rfl hb9
      rename News _ _ _ _ => N13
      rename Fr _ _ _ _ => F13
      refine LCg.CompSrc.ledger hh F13 N13 (.tail _ (.head _)) (Nat.le_trans (show vs1.toArray.size ≤ 10000 from by rw [List.size_toArray]; exact hvl) (by rw [sizeLine_eq]; lia)) (fun g => ?_)
      refine compRest_J (n := vs1.toArray.size) (fun i ys nw => nw = (D, _) :: (f, W.listOf vs1.toArray cap1) :: (x9, _) :: (dx, _) :: (ob, _) :: (pb, _) :: (d, o6) :: (c, W.listOf vs'.toArray cap) :: (L' + 1 + 1 + 1, q1) :: (L' + 1 + 1, oc) :: (L' + 1, o2) :: os ∧ BytesAre ys ((ls'.take i).map (·.2))) ?hS ?step ?fin _ 0 [] _ rfl ⟨rfl, rfl, fun i v h => by simp at h⟩
      case hS =>
        rintro i ys nw ⟨rfl, _⟩
        exact .inr ⟨_, .tail _ (.head _), rfl, _, rfl⟩
      case step =>
        rintro i v ys nw I oI C oC D2 m₂ h tk E' hi hP ⟨rfl, hby⟩ hC2 hx2 F9 N9 off ne
        have hi2 : i < ls'.length := by rw [← hlen]; simpa using hi
        obtain ⟨a, ta, hv1, hv2⟩ := hlo.2 i ls'[i].1 ls'[i].2 (List.getElem?_eq_getElem hi2)
        obtain rfl : v = .ref a := Option.some.inj (hP.symm.trans (by simpa using hv1))
        have ht : IsTup h a #[.bool ls'[i].1, .bytes ls'[i].2.toArray ta] := News.isTup N9 (.tail _ (.tail _ (.tail _ (.tail _ (.tail _ (.tail _ (.tail _ (.tail _ (.tail _ (.tail _ (.tail _ (.tail _ (.tail _ (.tail _ (hv2)))))))))))))))
        have e9 : (ls'.take (i + 1)).map (·.2) = (ls'.take i).map (·.2) ++ [ls'[i].2] := by rw [List.take_succ, List.getElem?_eq_getElem hi2, List.map_append]; rfl
        walk1
        refine compName_local N9 (.tail _ (.head _)) hC2 hx2 ?_ rfl rfl rfl
        dsimp only
        walk1
        dsimp only
        refine item_tuple ht (k := 1) (j := 1) (x := .bytes ls'[i].2.toArray ta) (by decide) (by decide) rfl rfl ?_
        refine ⟨_, _, _, rfl, F9, N9, off, rfl, ?_⟩
        rw [e9]
        exact BytesAre.snoc hby
      case fin =>
        rintro ys nw ⟨rfl, hby⟩
        intro D3 h tk F9 N9 off
        rw [List.take_of_length_le (by rw [List.size_toArray]; lia)] at hby
        (repeat' (first | (k_unfold; (try dsimp only)) | (first | (with_reducible first | ((show (_ : Flow → Shared → Prop) _ _); rename Flow → Shared → Prop => K9; rename KR K9 _ => kr9; rename KN K9 _ => kn9; (first | refine kn9 _ ?_ | refine kr9.ret _ _ ?_ | refine kr9.brk _ ?_ | refine kr9.cont _ ?_); clear kn9 kr9 K9; (try dsimp only)) | ((show (_ : Flow → Shared → Prop) _ _); (first | refine kn_go (by assumption) ?_ | refine kr_go (by assumption) ?_); (try dsimp only)) | ((show (_ : Bool → Shared → Prop) _ _); rename Bool → Shared → Prop => K9; rename KT K9 _ => kb9; refine kb9 _ _ ?_; clear kb9 K9; (try dsimp only)))) | ((fail_if_success (with_reducible show wpC _ _ _ _ _ _)); (first | walk1 | (dsimp only; walk1)))))
        case refine'_2.refine'_4.refine_1 =>
          rename (_ != _) = true => hb9
          exfalso
          revert hb9
          rw [g2]
          simp
        rename (_ != _) = false => hb9
        clear hb9
        refine execs_nil_C ?_
        (first | (with_reducible first | ((show (_ : Flow → Shared → Prop) _ _); rename Flow → Shared → Prop => K9; rename KR K9 _ => kr9; rename KN K9 _ => kn9; (first | refine kn9 _ ?_ | refine kr9.ret _ _ ?_ | refine kr9.brk _ ?_ | refine kr9.cont _ ?_); clear kn9 kr9 K9; (try dsimp only)) | ((show (_ : Flow → Shared → Prop) _ _); (first | refine kn_go (by assumption) ?_ | refine kr_go (by assumption) ?_); (try dsimp only)) | ((show (_ : Bool → Shared → Prop) _ _); rename Bool → Shared → Prop => K9; rename KT K9 _ => kb9; refine kb9 _ _ ?_; clear kb9 K9; (try dsimp only))))
        refine execs_cons_C ?_
        refine wpC_mono (Q := EndP fun fl s' => ∃ h9 tk9 m9, fl = .next ∧ s' = { s₁ with heap := h9, toks := tk9 } ∧ m9 (Str.ofString "octets") = some (.bytes b tb) ∧ m9 (Str.ofString "wrote") = some (.bytes wr t8) ∧ Fr s₁.heap L' h9 m9 ∧ News s₁.heap L' h9 ((x9, instObj 189 dx) :: (dx, encD w.params k1 false #[] ob rc 0 pb 0 0) :: (ob, baObj #[]) :: (pb, baObj #[]) :: (d, o6) :: (c, W.listOf vs'.toArray cap) :: (L' + 1 + 1 + 1, q1) :: (L' + 1 + 1, oc) :: (L' + 1, o2) :: [])) (E := fun _ _ => False) ?wa (fun fl s' hP => ?wb) (fun _ _ h => h.elim)
        case wa =>
          have N14 := drop1 N9
          clear N9 N13
          (repeat' (first | (k_unfold; (try dsimp only)) | (first | (with_reducible first | ((show (_ : Flow → Shared → Prop) _ _); rename Flow → Shared → Prop => K9; rename KR K9 _ => kr9; rename KN K9 _ => kn9; (first | refine kn9 _ ?_ | refine kr9.ret _ _ ?_ | refine kr9.brk _ ?_ | refine kr9.cont _ ?_); clear kn9 kr9 K9; (try dsimp only)) | ((show (_ : Flow → Shared → Prop) _ _); (first | refine kn_go (by assumption) ?_ | refine kr_go (by assumption) ?_); (try dsimp only)) | ((show (_ : Bool → Shared → Prop) _ _); rename Bool → Shared → Prop => K9; rename KT K9 _ => kb9; refine kb9 _ _ ?_; clear kb9 K9; (try dsimp only)))) | ((with_reducible show wpC _ _ _ _ _ _); (first | (((with_reducible show wpC _ _ (exec (Stmt.If (Expr.BoolOp BoolOp.Or [Expr.UnaryOp _ _ _, _] _) _ _ _) _) _ _ _); (refine exec_If_CC ?_))) | (((with_reducible show wpC _ _ (isTrue (Expr.BoolOp _ _ _) _ _) _ _ _); (refine isTrue_Bool_C ?_))) | (((with_reducible show wpC _ _ (isTrue (Expr.UnaryOp _ _ _) _ _) _ _ _); (refine isTrue_Not_C ?_))) | (((with_reducible show wpC _ _ (isTrue (Expr.Call _ _ _ _) _ _) _ _ _); (refine isTrue_Call_C ?_))) | (((with_reducible show wpC _ _ (allTrue BoolOp.Or (_ :: _) _) _ _ _); (refine allTrue_Or_C ?_))) | (((with_reducible show wpC _ _ (eval (Expr.Call (Expr.Name _ _) _ _ _) _) _ _ _); refine eval_CallName_C ?_)) | (((with_reducible show wpC _ _ (callWith _ (Value.ref _) _ _ _) _ _ _); first | (refine' callWith_CK0 ?zqk1 ?zqk2 ?_; (case zqk1 => k_in); (case zqk2 => k_is)) | (refine' callWith_CK ?zqk1 ?zqk2 ?_; (case zqk1 => k_asm); (case zqk2 => k_is)))))) | (dsimp only; (with_reducible show wpC _ _ _ _ _ _)) | ((fail_if_success (with_reducible show wpC _ _ _ _ _ _)); (first | walk1 | (dsimp only; walk1)))))
          have zs : (ls'.map (·.2.length)).sum = b.size := by
            have := congrArg List.length g2
            rw [List.length_flatten, List.map_map, e9] at this
            exact this
          refine use_ctr2 (right w hlo g3 (by walk_at "om") (by walk_at "om") (by walk_at "om") (by walk_at "om")) F9 (news_perm (perm_lots (l := [_, _, _, _, _, _, _, _, _])) N14) (nodup_perm (perm_lots (l := [_, _, _, _, _, _, _, _, _])) nd12) B' X T hA rfl rfl hh (by (first | exact room2 (by assumption) (by decide) | exact room3 (by assumption) (by decide) | walk_at "om")) (by (first | exact room2 (by assumption) (by decide) | exact room3 (by assumption) (by decide) | walk_at "om")) ?_
          rintro v15 h15 tk15 l15 F15 N15 nd15 ⟨rfl, rfl⟩
          clear F9 N14
          have N16 := news_sub N15 (l' := (x9, instObj 189 dx) :: (dx, encD w.params k1 false #[] ob rc 0 pb 0 0) :: (ob, baObj #[]) :: (pb, baObj #[]) :: (d, o6) :: (c, W.listOf vs'.toArray cap) :: (L' + 1 + 1 + 1, q1) :: (L' + 1 + 1, oc) :: (L' + 1, o2) :: []) (by ((intro y hy; simp only [List.cons_append, List.nil_append, List.mem_cons, List.mem_append, List.not_mem_nil, or_false] at hy ⊢; (repeat' (rcases hy with hy | hy)); all_goals (rename _ = _ => hy9; simp only [hy9, true_or, or_true]))))
          clear N15 nd15
          dsimp only
          (repeat' (first | (k_unfold; (try dsimp only)) | (first | (with_reducible first | ((show (_ : Flow → Shared → Prop) _ _); rename Flow → Shared → Prop => K9; rename KR K9 _ => kr9; rename KN K9 _ => kn9; (first | refine kn9 _ ?_ | refine kr9.ret _ _ ?_ | refine kr9.brk _ ?_ | refine kr9.cont _ ?_); clear kn9 kr9 K9; (try dsimp only)) | ((show (_ : Flow → Shared → Prop) _ _); (first | refine kn_go (by assumption) ?_ | refine kr_go (by assumption) ?_); (try dsimp only)) | ((show (_ : Bool → Shared → Prop) _ _); rename Bool → Shared → Prop => K9; rename KT K9 _ => kb9; refine kb9 _ _ ?_; clear kb9 K9; (try dsimp only)))) | ((with_reducible show wpC _ _ _ _ _ _); (first | (((with_reducible show wpC _ _ (isTrue (Expr.Compare _ _ _ _) _ _) _ _ _); (refine isTrue_Compare_C ?_))) | (((with_reducible show wpC _ _ (allTrue BoolOp.Or (_ :: _) _) _ _ _); (refine allTrue_Or_C ?_))) | (((with_reducible show wpC _ _ (callWith _ (Value.type _) _ (backTo _ (starEach (_ :: _) _)) _) _ _ _); refine callWith_CT ?_)) | (((with_reducible show wpC _ _ (ite (false = true) _ _) _ _ _); refine wpC_ite_f Bool.false_ne_true ?_)) | (((with_reducible show wpC _ _ (spliced _) _ _ _); show wpC _ _ (spliced ((false, _) :: _)) _ _ _; refine spliced_cons_C ?_)) | (((with_reducible show wpC _ _ (execs (_ :: _) _) _ _ _); refine execs_cons_G ?_; intro _ _ _)) | (((with_reducible show wpC _ _ (exec _ _) _ _ _); refine wpC_any ?_)) | (((with_reducible show wpC _ _ (eval (Expr.Call (Expr.Name _ _) _ _ _) _) _ _ _); refine eval_CallName_C ?_)) | (((with_reducible show wpC _ _ (callWith _ (Value.ref _) _ _ _) _ _ _); first | (refine' callWith_CK0 ?zqk1 ?zqk2 ?_; (case zqk1 => k_in); (case zqk2 => k_is)) | (refine' callWith_CK ?zqk1 ?zqk2 ?_; (case zqk1 => k_asm); (case zqk2 => k_is)))))) | (dsimp only; (with_reducible show wpC _ _ _ _ _ _)) | ((fail_if_success (with_reducible show wpC _ _ _ _ _ _)); (first | walk1 | (dsimp only; walk1)))))
          · rename (!true) = true => hb9
            exact absurd hb9 (by decide)
          have hrun : decRun wr = ⟨true, #[], #[] ++ ((ls'.map (·.2)).flatten).toArray, 0, 0⟩ := (dec_lots wr.toList.length wr.toList (Nat.le_refl _) #[]).2 ls' _ g5
          refine use_ctrXA (decoded w (by walk_at "om")) F15 N16 nd9 B' X T hA rfl rfl hh (by (first | exact room2 (by assumption) (by decide) | exact room3 (by assumption) (by decide) | walk_at "om")) (by (first | exact room2 (by assumption) (by decide) | exact room3 (by assumption) (by decide) | walk_at "om")) ?hx3 ?main3
          case hx3 =>
            rintro e dd tt g7 h7 tk7 l7 R7 FG7 U7 nd7 fr7 ⟨⟨_, h9⟩, _⟩
            exfalso
            rw [hrun] at h9
            rcases h9 with h9 | h9 <;> (dsimp only at h9; lia)
          case main3 =>
            rintro v h7 tk7 l7 F5 N5 nd5 ⟨-, rfl, t5, rfl⟩
            simp only [List.nil_append] at N5 nd5
            clear F15 N16 nd5
            rw [hrun]
            (repeat' (first | (k_unfold; (try dsimp only)) | (first | (with_reducible first | ((show (_ : Flow → Shared → Prop) _ _); rename Flow → Shared → Prop => K9; rename KR K9 _ => kr9; rename KN K9 _ => kn9; (first | refine kn9 _ ?_ | refine kr9.ret _ _ ?_ | refine kr9.brk _ ?_ | refine kr9.cont _ ?_); clear kn9 kr9 K9; (try dsimp only)) | ((show (_ : Flow → Shared → Prop) _ _); (first | refine kn_go (by assumption) ?_ | refine kr_go (by assumption) ?_); (try dsimp only)) | ((show (_ : Bool → Shared → Prop) _ _); rename Bool → Shared → Prop => K9; rename KT K9 _ => kb9; refine kb9 _ _ ?_; clear kb9 K9; (try dsimp only)))) | ((with_reducible show wpC _ _ _ _ _ _); (first | (((with_reducible show wpC _ _ (allTrue BoolOp.Or [] _) _ _ _); (refine allTrue_nil_C ?_))) | (((with_reducible show wpC _ _ (call (Value.type "bytes") _ _) _ _ _); refine wpC_any ?_)) | (((with_reducible show wpC _ _ (eval (Expr.Name _ _) _) _ _ _); refine wpC_any ?_)) | (((with_reducible show wpC _ _ (spliced _) _ _ _); show wpC _ _ (spliced []) _ _ _; refine spliced_nil_C ?_)) | (((with_reducible show wpC _ _ (execs (_ :: _) _) _ _ _); refine execs_cons_G ?_; intro _ _ _)) | (((with_reducible show wpC _ _ (execs [] _) _ _ _); refine execs_nil_C ?_)) | (((with_reducible show wpC _ _ (exec _ _) _ _ _); refine wpC_any ?_)))) | (dsimp only; (with_reducible show wpC _ _ _ _ _ _)) | ((fail_if_success (with_reducible show wpC _ _ _ _ _ _)); (first | walk1 | (dsimp only; walk1)))))
            · rename (_ != _) = true => hb9
              exfalso
              revert hb9
              rw [g2]
              simp
            · refine ⟨_, _, _, rfl, rfl, ?_, ?_, F5, N5⟩
              · exact hm1
              · rfl
        case wb =>
          clear N9 F9 N13 F13 off hby hlo nd12 g2 g3 zz hvl hlen hll
          obtain ⟨h7, tk7, m8, rfl, rfl, hm3, hm4, F7, N7⟩ := hP
          dsimp only
          (repeat' (first | (k_unfold; (try dsimp only)) | (first | (with_reducible first | ((show (_ : Flow → Shared → Prop) _ _); rename Flow → Shared → Prop => K9; rename KR K9 _ => kr9; rename KN K9 _ => kn9; (first | refine kn9 _ ?_ | refine kr9.ret _ _ ?_ | refine kr9.brk _ ?_ | refine kr9.cont _ ?_); clear kn9 kr9 K9; (try dsimp only)) | ((show (_ : Flow → Shared → Prop) _ _); (first | refine kn_go (by assumption) ?_ | refine kr_go (by assumption) ?_); (try dsimp only)) | ((show (_ : Bool → Shared → Prop) _ _); rename Bool → Shared → Prop => K9; rename KT K9 _ => kb9; refine kb9 _ _ ?_; clear kb9 K9; (try dsimp only)))) | ((with_reducible show wpC _ _ _ _ _ _); (first | (((with_reducible show wpC _ _ (eval (Expr.ListComp _ _ _ _) _) _ _ _); (refine' ListComp_C ?zqc1 ?zqc3 ?zqc4 ?_ ?zqc6; (case zqc1 => exact rfl); (case zqc3 => exact rfl); (case zqc4 => decide); (case zqc6 => (intro _; exact rfl))))) | (((with_reducible show wpC _ _ (callWith _ (Value.builtin _) _ (backTo _ (starEach (_ :: _) _)) _) _ _ _); refine callWith_CBC ?_)) | (((with_reducible show wpC _ _ (ite (false = true) _ _) _ _ _); refine wpC_ite_f Bool.false_ne_true ?_)) | (((with_reducible show wpC _ _ (spliced _) _ _ _); show wpC _ _ (spliced ((false, _) :: _)) _ _ _; refine spliced_cons_C ?_)) | (((with_reducible show wpC _ _ (execs (_ :: _) _) _ _ _); refine execs_cons_G ?_; intro _ _ _)) | (((with_reducible show wpC _ _ (exec (Stmt.Assign [Expr.Name _ _] (Expr.Call _ _ _ _) _) _) _ _ _); refine exec_AssignName_C ?_)) | (((with_reducible show wpC _ _ (eval (Expr.Call (Expr.Name _ _) _ _ _) _) _ _ _); refine eval_CallName_C ?_)) | (((with_reducible show wpC _ _ (eval (Expr.Call (Expr.Attribute _ _ _) _ _ _) _) _ _ _); refine eval_CallMeth_C ?_)) | (((with_reducible show wpC _ _ (callWith _ (Value.ref _) _ _ _) _ _ _); first | (refine' callWith_CK0 ?zqk1 ?zqk2 ?_; (case zqk1 => k_in); (case zqk2 => k_is)) | (refine' callWith_CK ?zqk1 ?zqk2 ?_; (case zqk1 => k_asm); (case zqk2 => k_is)))))) | (dsimp only; (with_reducible show wpC _ _ _ _ _ _)) | ((fail_if_success (with_reducible show wpC _ _ _ _ _ _)); (first | walk1 | (dsimp only; walk1)))))
          have pp := (List.perm_append_comm (l₁ := [(x9, instObj 189 dx), (dx, encD w.params k1 false #[] ob rc 0 pb 0 0), (ob, baObj #[]), (pb, baObj #[])]) (l₂ := [(d, o6), (c, W.listOf vs'.toArray cap)])).append_right [(L' + 1 + 1 + 1, q1), (L' + 1 + 1, oc), (L' + 1, o2)]
          refine use_ctr2 (pieces w hC hd6 lo (by walk_at "om") (by walk_at "om") (by walk_at "om")) F7 (news_perm pp N7) (nodup_perm pp nd9) B' X T hA rfl rfl hh (by (first | exact room2 (by assumption) (by decide) | exact room3 (by assumption) (by decide) | walk_at "om")) (by (first | exact room2 (by assumption) (by decide) | exact room3 (by assumption) (by decide) | walk_at "om")) ?_
          rintro v17 h17 tk17 l17 F17 N17 nd17 ⟨r, p1, p2, p3, t1, t2, t3, t4, o', cap', rfl, hp3, hd1, rfl⟩
          have pp := (List.perm_append_comm (l₁ := [(r, W.listOf #[.bytes p1 t1, .bytes p2 t2, .bytes p3 t3] cap'), (d, o'), (c, W.listOf vs'.toArray cap)]) (l₂ := [(x9, instObj 189 dx), (dx, encD w.params k1 false #[] ob rc 0 pb 0 0), (ob, baObj #[]), (pb, baObj #[])])).append_right [(L' + 1 + 1 + 1, q1), (L' + 1 + 1, oc), (L' + 1, o2)]
          have N18 := news_perm pp N17
          have nd18 := nodup_perm pp nd17
          clear N17 nd17 F7 N7
          refine compGo_list (m := _) (news := _) (its := #[.bytes p1 t1, .bytes p2 t2, .bytes p3 t3]) (fun i ys nw => ∃ l3 bs, EncAt w.params x9 false #[] rc ⟨#[], (Enc.run rc ⟨#[], 0, #[], 0, 0⟩ (pre3 p1 p2 p3 i)).taken, (Enc.run rc ⟨#[], 0, #[], 0, 0⟩ (pre3 p1 p2 p3 i)).plain, (Enc.run rc ⟨#[], 0, #[], 0, 0⟩ (pre3 p1 p2 p3 i)).same, (Enc.run rc ⟨#[], 0, #[], 0, 0⟩ (pre3 p1 p2 p3 i)).many⟩ l3 ∧
            nw = l3 ++ ((r, W.listOf #[.bytes p1 t1, .bytes p2 t2, .bytes p3 t3] cap') :: (d, o') :: (c, W.listOf vs'.toArray cap) :: (L' + 1 + 1 + 1, q1) :: (L' + 1 + 1, oc) :: (L' + 1, o2) :: []) ∧ BytesAre ys bs ∧ bs.flatten = (Enc.run rc ⟨#[], 0, #[], 0, 0⟩ (pre3 p1 p2 p3 i)).out.toList) hh (by decide) rfl rfl F17 N18 nd18 ?hS (by rw [sizeLine_eq]; show 3 ≤ 16777216; decide) ?hJ ?step ?fin
          case hJ =>
            exact ⟨[(x9, instObj 189 dx), (dx, encD w.params k1 false #[] ob rc 0 pb 0 0), (ob, baObj #[]), (pb, baObj #[])], [], encAt_of, rfl, ⟨rfl, fun i v h => by simp at h⟩, rfl⟩
          case hS =>
            rintro i ys nw ⟨l3, bs, ⟨_, _, _, ⟨_, _, _, _, _, _, _, _, _, _, _, _, _⟩, rfl⟩, rfl, _⟩
            exact .inr ⟨_, List.mem_append_right _ (.head _), rfl, _, rfl⟩
          case step =>
            rintro i v ys nw I oI C oC D m₂ h tk hi9 hv ⟨l3, bs, ⟨dx2, ob2, pb2, a1, rfl⟩, rfl, hby, hfl⟩ hC9 hx9 F5 N5 nd5
            obtain ⟨p9, t9, rfl, e11, z9, z10⟩ := pre3_step hp3 hv
            simp only [List.cons_append, List.nil_append] at N5 nd5
            (repeat' (first | (k_unfold; (try dsimp only)) | (first | (with_reducible first | ((show (_ : Flow → Shared → Prop) _ _); rename Flow → Shared → Prop => K9; rename KR K9 _ => kr9; rename KN K9 _ => kn9; (first | refine kn9 _ ?_ | refine kr9.ret _ _ ?_ | refine kr9.brk _ ?_ | refine kr9.cont _ ?_); clear kn9 kr9 K9; (try dsimp only)) | ((show (_ : Flow → Shared → Prop) _ _); (first | refine kn_go (by assumption) ?_ | refine kr_go (by assumption) ?_); (try dsimp only)) | ((show (_ : Bool → Shared → Prop) _ _); rename Bool → Shared → Prop => K9; rename KT K9 _ => kb9; refine kb9 _ _ ?_; clear kb9 K9; (try dsimp only)))) | ((with_reducible show wpC _ _ _ _ _ _); (first | (((with_reducible show wpC _ _ (callWith _ (Value.type _) _ (backTo _ (starEach (_ :: _) _)) _) _ _ _); refine callWith_CT ?_)) | (((with_reducible show wpC _ _ (ite (false = true) _ _) _ _ _); refine wpC_ite_f Bool.false_ne_true ?_)) | (((with_reducible show wpC _ _ (spliced _) _ _ _); show wpC _ _ (spliced ((false, _) :: _)) _ _ _; refine spliced_cons_C ?_)) | (((with_reducible show wpC _ _ (eval (Expr.Call (Expr.Name _ _) _ _ _) _) _ _ _); refine eval_CallName_C ?_)) | (((with_reducible show wpC _ _ (eval (Expr.Call (Expr.Attribute _ _ _) _ _ _) _) _ _ _); refine eval_CallMeth_C ?_)) | (((with_reducible show wpC _ _ (callWith _ (Value.ref _) _ _ _) _ _ _); first | (refine' callWith_CK0 ?zqk1 ?zqk2 ?_; (case zqk1 => k_in); (case zqk2 => k_is)) | (refine' callWith_CK ?zqk1 ?zqk2 ?_; (case zqk1 => k_asm); (case zqk2 => k_is)))))) | (dsimp only; (with_reducible show wpC _ _ _ _ _ _)) | ((fail_if_success (with_reducible show wpC _ _ _ _ _ _)); (first | walk1 | (dsimp only; walk1)))))
            have hD1 : Enc.run rc ⟨#[], 0, #[], 0, 0⟩ (pre3 p1 p2 p3 (i + 1)) = _ := (congrArg (Enc.run rc ⟨#[], 0, #[], 0, 0⟩) e11).trans ((enc_append rc _ _ _).trans (enc_step rc _ _))
            have y9 := (Enc.run_ok (rc := rc) (st := ⟨#[], 0, #[], 0, 0⟩) (l := pre3 p1 p2 p3 i) ⟨Nat.zero_le _, Int.le_refl _, by decide, Int.le_refl _, by decide⟩).1
            generalize Enc.run rc ⟨#[], 0, #[], 0, 0⟩ (pre3 p1 p2 p3 i) = DD at hD1 y9 hfl N5 nd5
            rename News _ _ _ ((I, oI) :: _) => N16
            have pp := (List.perm_append_comm (l₁ := [(I, oI), (C, oC), (D, LCg.lst ys)]) (l₂ := [(x9, instObj 189 dx2), (dx2, encD w.params a1 false #[] ob2 rc DD.taken pb2 DD.same DD.many), (ob2, baObj #[]), (pb2, baObj DD.plain)])).append_right ((r, W.listOf #[.bytes p1 t1, .bytes p2 t2, .bytes p3 t3] cap') :: (d, o') :: (c, W.listOf vs'.toArray cap) :: (L' + 1 + 1 + 1, q1) :: (L' + 1 + 1, oc) :: (L' + 1, o2) :: [])
            refine use_encB (enc_feedT w (out := #[]) rfl ⟨y9.1, y9.2, y9.3, y9.4, y9.5⟩ (by (try simp only [List.size_toArray, List.length_nil, Array.size_empty]); walk_at "om")) F5 (news_perm pp N16) (nodup_perm pp nd5) B' X T hA rfl rfl hh (by (first | exact room2 (by assumption) (by decide) | exact room3 (by assumption) (by decide) | walk_at "om")) (by (first | exact room2 (by assumption) (by decide) | exact room3 (by assumption) (by decide) | walk_at "om")) ?_
            intro h18 tk18 dx3 ob3 pb3 b1 t19 F19 N19 nd19 _ _ _ _ _ _ _ _
            clear N16 F5 N18
            (repeat' (first | (k_unfold; (try dsimp only)) | (first | (with_reducible first | ((show (_ : Flow → Shared → Prop) _ _); rename Flow → Shared → Prop => K9; rename KR K9 _ => kr9; rename KN K9 _ => kn9; (first | refine kn9 _ ?_ | refine kr9.ret _ _ ?_ | refine kr9.brk _ ?_ | refine kr9.cont _ ?_); clear kn9 kr9 K9; (try dsimp only)) | ((show (_ : Flow → Shared → Prop) _ _); (first | refine kn_go (by assumption) ?_ | refine kr_go (by assumption) ?_); (try dsimp only)) | ((show (_ : Bool → Shared → Prop) _ _); rename Bool → Shared → Prop => K9; rename KT K9 _ => kb9; refine kb9 _ _ ?_; clear kb9 K9; (try dsimp only)))) | ((with_reducible show wpC _ _ _ _ _ _); (first | (((with_reducible show wpC _ _ (call (Value.type "bytes") _ _) _ _ _); refine wpC_any ?_)) | (((with_reducible show wpC _ _ (spliced _) _ _ _); show wpC _ _ (spliced []) _ _ _; refine spliced_nil_C ?_)))) | (dsimp only; (with_reducible show wpC _ _ _ _ _ _)) | ((fail_if_success (with_reducible show wpC _ _ _ _ _ _)); (first | walk1 | (dsimp only; walk1)))))
            have pp := (List.perm_append_comm (l₁ := [(x9, instObj 189 dx3), (dx3, encD w.params b1 false #[] ob3 rc (Enc.run rc ⟨#[], DD.taken, DD.plain, DD.same, DD.many⟩ p9.toList).taken pb3 (Enc.run rc ⟨#[], DD.taken, DD.plain, DD.same, DD.many⟩ p9.toList).same (Enc.run rc ⟨#[], DD.taken, DD.plain, DD.same, DD.many⟩ p9.toList).many), (ob3, baObj #[]), (pb3, baObj (Enc.run rc ⟨#[], DD.taken, DD.plain, DD.same, DD.many⟩ p9.toList).plain)]) (l₂ := [(I, oI), (C, oC), (D, LCg.lst ys)])).append_right ((r, W.listOf #[.bytes p1 t1, .bytes p2 t2, .bytes p3 t3] cap') :: (d, o') :: (c, W.listOf vs'.toArray cap) :: (L' + 1 + 1 + 1, q1) :: (L' + 1 + 1, oc) :: (L' + 1, o2) :: [])
            refine' ⟨_, _, _, rfl, F19, news_perm pp N19, nodup_perm pp nd19, [(x9, instObj 189 dx3), (dx3, _), (ob3, baObj #[]), (pb3, _)], bs ++ [(Enc.run rc ⟨#[], DD.taken, DD.plain, DD.same, DD.many⟩ p9.toList).out.toList], ?e1, rfl, BytesAre.snoc hby, ?e3⟩
            case e1 =>
              rw [hD1]
              exact encAt_of
            case e3 =>
              rw [hD1]
              simp [hfl]
          case fin =>
            rintro D h tk ys nw F5 N5 nd5 ⟨l3, bs, ⟨dx2, ob2, pb2, a1, rfl⟩, rfl, hby, hfl⟩
            clear F17 N18 nd18
            have e20 : (#[Value.bytes p1 t1, .bytes p2 t2, .bytes p3 t3] : Array Value).size = 3 := rfl
            rw [e20, pre3_all p1 p2 p3 hp3] at hfl N5
            simp only [List.cons_append, List.nil_append] at N5 nd5
            have y9 := (Enc.run_ok (rc := rc) (st := ⟨#[], 0, #[], 0, 0⟩) (l := b.toList) ⟨Nat.zero_le _, Int.le_refl _, by decide, Int.le_refl _, by decide⟩).1
            unfold encBytes at hwr
            generalize Enc.run rc ⟨#[], 0, #[], 0, 0⟩ b.toList = DD at hwr y9 hfl N5
            have zz : bs.flatten.length ≤ 16777216 := by
              have z1 := congrArg Array.size hwr
              rw [Array.size_append] at z1
              have z2 : DD.out.toList.length = DD.out.size := Array.length_toList
              rw [hfl]
              lia
            (repeat' (first | (k_unfold; (try dsimp only)) | (first | (with_reducible first | ((show (_ : Flow → Shared → Prop) _ _); rename Flow → Shared → Prop => K9; rename KR K9 _ => kr9; rename KN K9 _ => kn9; (first | refine kn9 _ ?_ | refine kr9.ret _ _ ?_ | refine kr9.brk _ ?_ | refine kr9.cont _ ?_); clear kn9 kr9 K9; (try dsimp only)) | ((show (_ : Flow → Shared → Prop) _ _); (first | refine kn_go (by assumption) ?_ | refine kr_go (by assumption) ?_); (try dsimp only)) | ((show (_ : Bool → Shared → Prop) _ _); rename Bool → Shared → Prop => K9; rename KT K9 _ => kb9; refine kb9 _ _ ?_; clear kb9 K9; (try dsimp only)))) | ((fail_if_success (with_reducible show wpC _ _ _ _ _ _)); (first | walk1 | (dsimp only; walk1)))))
            show wpC _ _ (spliced []) _ _ _
            refine spliced_nil_C ?_
            (first | (((with_reducible show wpC _ _ (call (Value.builtin "bytes.join") _ _) _ _ _); (try dsimp only [List.nil_append, List.cons_append]); refine wpC_any ?_)))
            (repeat' (first | (k_unfold; (try dsimp only)) | (first | (with_reducible first | ((show (_ : Flow → Shared → Prop) _ _); rename Flow → Shared → Prop => K9; rename KR K9 _ => kr9; rename KN K9 _ => kn9; (first | refine kn9 _ ?_ | refine kr9.ret _ _ ?_ | refine kr9.brk _ ?_ | refine kr9.cont _ ?_); clear kn9 kr9 K9; (try dsimp only)) | ((show (_ : Flow → Shared → Prop) _ _); (first | refine kn_go (by assumption) ?_ | refine kr_go (by assumption) ?_); (try dsimp only)) | ((show (_ : Bool → Shared → Prop) _ _); rename Bool → Shared → Prop => K9; rename KT K9 _ => kb9; refine kb9 _ _ ?_; clear kb9 K9; (try dsimp only)))) | ((fail_if_success (with_reducible show wpC _ _ _ _ _ _)); (first | walk1 | (dsimp only; walk1)))))
            refine execs_cons_C ?_
            refine exec_If_CC ?_
            refine isTrue_Compare_C ?_
            refine eval_BinOp_C ?_
            iterate 6
              (first | (((with_reducible show wpC _ _ (callWith _ (Value.type _) _ (backTo _ (starEach (_ :: _) _)) _) _ _ _); refine callWith_CT ?_)) | (((with_reducible show wpC _ _ (eval (Expr.Name _ _) _) _ _ _); refine wpC_any ?_)) | (((with_reducible show wpC _ _ (ite (false = true) _ _) _ _ _); refine wpC_ite_f Bool.false_ne_true ?_)) | (((with_reducible show wpC _ _ (spliced _) _ _ _); show wpC _ _ (spliced ((false, _) :: _)) _ _ _; refine spliced_cons_C ?_)) | (((with_reducible show wpC _ _ (eval (Expr.Call (Expr.Name _ _) _ _ _) _) _ _ _); refine eval_CallName_C ?_)) | (((with_reducible show wpC _ _ (eval (Expr.Call (Expr.Attribute _ _ _) _ _ _) _) _ _ _); refine eval_CallMeth_C ?_)))
              try (repeat' (first | (k_unfold; (try dsimp only)) | (first | (with_reducible first | ((show (_ : Flow → Shared → Prop) _ _); rename Flow → Shared → Prop => K9; rename KR K9 _ => kr9; rename KN K9 _ => kn9; (first | refine kn9 _ ?_ | refine kr9.ret _ _ ?_ | refine kr9.brk _ ?_ | refine kr9.cont _ ?_); clear kn9 kr9 K9; (try dsimp only)) | ((show (_ : Flow → Shared → Prop) _ _); (first | refine kn_go (by assumption) ?_ | refine kr_go (by assumption) ?_); (try dsimp only)) | ((show (_ : Bool → Shared → Prop) _ _); rename Bool → Shared → Prop => K9; rename KT K9 _ => kb9; refine kb9 _ _ ?_; clear kb9 K9; (try dsimp only)))) | ((fail_if_success (with_reducible show wpC _ _ _ _ _ _)); (first | walk1 | (dsimp only; walk1)))))
            dsimp only
            rename Fr _ _ _ _ => F21
            rename News _ _ _ _ => N21
            refine callWith_CK0 (X.keeps F21.keep) (by k_is) ?_
            show wpC _ _ (call (.ref 75) [.ref x9]) _ _ _
            have N22 := news_sub N21 (l' := [(x9, instObj 189 dx2), (dx2, encD w.params a1 false #[] ob2 rc DD.taken pb2 DD.same DD.many), (ob2, baObj #[]), (pb2, baObj DD.plain)] ++ ((r, W.listOf #[.bytes p1 t1, .bytes p2 t2, .bytes p3 t3] cap') :: (d, o') :: (c, W.listOf vs'.toArray cap) :: (L' + 1 + 1 + 1, q1) :: (L' + 1 + 1, oc) :: (L' + 1, o2) :: [])) (by ((intro y hy; simp only [List.cons_append, List.nil_append, List.mem_cons, List.mem_append, List.not_mem_nil, or_false] at hy ⊢; (repeat' (rcases hy with hy | hy)); all_goals (rename _ = _ => hy9; simp only [hy9, true_or, or_true]))))
            clear N21
            have nd22 := nodup_sub nd5 (List.sublist_cons_self _ _)
            have eb : bs.flatten.toArray = DD.out := by rw [hfl]
            rw [eb] at F21
            rw [eb]
            refine use_ctr2 (enc_finishT w (out := #[]) rfl y9.1 (by (try simp only [List.size_toArray, List.length_nil]); walk_at "om") y9.2 y9.3 y9.4 y9.5) F21 N22 nd22 B' X T hA rfl rfl hh (by (first | exact room2 (by assumption) (by decide) | exact room3 (by assumption) (by decide) | walk_at "om")) (by (first | exact room2 (by assumption) (by decide) | exact room3 (by assumption) (by decide) | walk_at "om")) ?_
            rintro v23 h23 tk23 l23 F23 N23 nd23 ⟨⟨t23, rfl⟩, -⟩
            have N24 : News s₁.heap L' h23 ((d, o') :: (c, W.listOf vs'.toArray cap) :: (L' + 1 + 1 + 1, q1) :: (L' + 1 + 1, oc) :: (L' + 1, o2) :: []) := fun p hp => N23 p (List.mem_append_right _ (.tail _ hp))
            clear F21 N22 N23 nd23 nd5 nd22 hfl eb zz hby
            have hwf : DD.out ++ (cpOut (crOut #[] DD.plain DD.same DD.many) (crPlain DD.plain DD.same DD.many)).push 128 = wr := hwr
            clear hwr
            generalize (cpOut (crOut #[] DD.plain DD.same DD.many) (crPlain DD.plain DD.same DD.many)).push 128 = fb at hwf
            have zz : DD.out.size + fb.size = wr.size := by rw [← hwf, Array.size_append]
            generalize DD.out = pw at hwf zz F23
            clear y9
            (repeat' (first | (k_unfold; (try dsimp only)) | (first | (with_reducible first | ((show (_ : Flow → Shared → Prop) _ _); rename Flow → Shared → Prop => K9; rename KR K9 _ => kr9; rename KN K9 _ => kn9; (first | refine kn9 _ ?_ | refine kr9.ret _ _ ?_ | refine kr9.brk _ ?_ | refine kr9.cont _ ?_); clear kn9 kr9 K9; (try dsimp only)) | ((show (_ : Flow → Shared → Prop) _ _); (first | refine kn_go (by assumption) ?_ | refine kr_go (by assumption) ?_); (try dsimp only)) | ((show (_ : Bool → Shared → Prop) _ _); rename Bool → Shared → Prop => K9; rename KT K9 _ => kb9; refine kb9 _ _ ?_; clear kb9 K9; (try dsimp only)))) | ((with_reducible show wpC _ _ _ _ _ _); (first | (((with_reducible show wpC _ _ (call (Value.type "bytes") _ _) _ _ _); refine wpC_any ?_)) | (((with_reducible show wpC _ _ (spliced _) _ _ _); show wpC _ _ (spliced []) _ _ _; refine spliced_nil_C ?_)))) | (dsimp only; (with_reducible show wpC _ _ _ _ _ _)) | ((fail_if_success (with_reducible show wpC _ _ _ _ _ _)); (first | walk1 | (dsimp only; walk1)))))
            show wpAny _ _ (call (.type "bytes") [.bytes fb t23]) _ _ _
            refine bytes_bytes ?_
            (repeat' (first | (k_unfold; (try dsimp only)) | (first | (with_reducible first | ((show (_ : Flow → Shared → Prop) _ _); rename Flow → Shared → Prop => K9; rename KR K9 _ => kr9; rename KN K9 _ => kn9; (first | refine kn9 _ ?_ | refine kr9.ret _ _ ?_ | refine kr9.brk _ ?_ | refine kr9.cont _ ?_); clear kn9 kr9 K9; (try dsimp only)) | ((show (_ : Flow → Shared → Prop) _ _); (first | refine kn_go (by assumption) ?_ | refine kr_go (by assumption) ?_); (try dsimp only)) | ((show (_ : Bool → Shared → Prop) _ _); rename Bool → Shared → Prop => K9; rename KT K9 _ => kb9; refine kb9 _ _ ?_; clear kb9 K9; (try dsimp only)))) | ((with_reducible show wpC _ _ _ _ _ _); (first | (((with_reducible show wpC _ _ (eval (Expr.Name _ _) _) _ _ _); refine wpC_any ?_)) | (((with_reducible show wpC _ _ (execs (_ :: _) _) _ _ _); refine execs_cons_G ?_; intro _ _ _)) | (((with_reducible show wpC _ _ (execs [] _) _ _ _); refine execs_nil_C ?_)) | (((with_reducible show wpC _ _ (exec _ _) _ _ _); refine wpC_any ?_)))) | (dsimp only; (with_reducible show wpC _ _ _ _ _ _)) | ((fail_if_success (with_reducible show wpC _ _ _ _ _ _)); (first | walk1 | (dsimp only; walk1)))))
            · rename (_ != _) = true => hb9
              exfalso
              revert hb9
              rw [hwf]
              simp
            rename_i D25 h25 F25 N25 l25
            have nb := nd_before (l1 := [d, c]) nd1
            have nc8 := nb _ (.head _)
            have nc9 := nb _ (.tail _ (.head _))
            clear nb
            walk_at "ands"
            (repeat' (first | (k_unfold; (try dsimp only)) | (first | (with_reducible first | ((show (_ : Flow → Shared → Prop) _ _); rename Flow → Shared → Prop => K9; rename KR K9 _ => kr9; rename KN K9 _ => kn9; (first | refine kn9 _ ?_ | refine kr9.ret _ _ ?_ | refine kr9.brk _ ?_ | refine kr9.cont _ ?_); clear kn9 kr9 K9; (try dsimp only)) | ((show (_ : Flow → Shared → Prop) _ _); (first | refine kn_go (by assumption) ?_ | refine kr_go (by assumption) ?_); (try dsimp only)) | ((show (_ : Bool → Shared → Prop) _ _); rename Bool → Shared → Prop => K9; rename KT K9 _ => kb9; refine kb9 _ _ ?_; clear kb9 K9; (try dsimp only)))) | ((fail_if_success (with_reducible show wpC _ _ _ _ _ _)); (first | walk1 | (dsimp only; walk1)))))
            ((repeat (rename ¬ _ = _ => hc9; clear hc9)))
            (repeat' (first | (k_unfold; (try dsimp only)) | (first | (with_reducible first | ((show (_ : Flow → Shared → Prop) _ _); rename Flow → Shared → Prop => K9; rename KR K9 _ => kr9; rename KN K9 _ => kn9; (first | refine kn9 _ ?_ | refine kr9.ret _ _ ?_ | refine kr9.brk _ ?_ | refine kr9.cont _ ?_); clear kn9 kr9 K9; (try dsimp only)) | ((show (_ : Flow → Shared → Prop) _ _); (first | refine kn_go (by assumption) ?_ | refine kr_go (by assumption) ?_); (try dsimp only)) | ((show (_ : Bool → Shared → Prop) _ _); rename Bool → Shared → Prop => K9; rename KT K9 _ => kb9; refine kb9 _ _ ?_; clear kb9 K9; (try dsimp only)))) | ((with_reducible show wpC _ _ _ _ _ _); (first | (((with_reducible show wpC _ _ (eval (Expr.ListComp _ _ _ _) _) _ _ _); (refine' ListComp_C ?zqc1 ?zqc3 ?zqc4 ?_ ?zqc6; (case zqc1 => exact rfl); (case zqc3 => exact rfl); (case zqc4 => decide); (case zqc6 => (intro _; exact rfl))))) | (((with_reducible show wpC _ _ (callWith _ (Value.type _) _ (backTo _ (starEach (_ :: _) _)) _) _ _ _); refine callWith_CT ?_)) | (((with_reducible show wpC _ _ (ite (false = true) _ _) _ _ _); refine wpC_ite_f Bool.false_ne_true ?_)) | (((with_reducible show wpC _ _ (spliced _) _ _ _); show wpC _ _ (spliced ((false, _) :: _)) _ _ _; refine spliced_cons_C ?_)) | (((with_reducible show wpC _ _ (execs (_ :: _) _) _ _ _); refine execs_cons_G ?_; intro _ _ _)) | (((with_reducible show wpC _ _ (exec (Stmt.Assign [Expr.Name _ _] (Expr.Call _ _ _ _) _) _) _ _ _); refine exec_AssignName_C ?_)) | (((with_reducible show wpC _ _ (eval (Expr.Call (Expr.Name _ _) _ _ _) _) _ _ _); refine eval_CallName_C ?_)) | (((with_reducible show wpC _ _ (callWith _ (Value.ref _) _ _ _) _ _ _); first | (refine' callWith_CK0 ?zqk1 ?zqk2 ?_; (case zqk1 => k_in); (case zqk2 => k_is)) | (refine' callWith_CK ?zqk1 ?zqk2 ?_; (case zqk1 => k_asm); (case zqk2 => k_is)))))) | (dsimp only; (with_reducible show wpC _ _ _ _ _ _)) | ((fail_if_success (with_reducible show wpC _ _ _ _ _ _)); (first | walk1 | (dsimp only; walk1)))))
            rename Fr _ _ _ _ => F26
            rename News _ _ _ _ => N26
            rename_i os26 hos _ _ _
            refine use_drawP (rest := (D25, _) :: (L' + 1 + 1 + 1, os26) :: (L' + 1 + 1, oc) :: (L' + 1, o2) :: []) ((List.perm_append_comm (l₁ := [_]) (l₂ := [_, _])).append_right _) N26 (nodup_push (allLt_ne (show AllLt D25 [(d, o'), (c, W.listOf vs'.toArray cap), (L' + 1 + 1 + 1, os26), (L' + 1 + 1, oc), (L' + 1, o2)] from ⟨by assumption, by assumption, by assumption, by assumption, by assumption, trivial⟩)) nd1) hC hd1 lo (by walk_at "om") (by walk_at "om") (by walk_at "om") (by walk_at "om") F26 B' X T hA rfl rfl hh (by (first | exact room2 (by assumption) (by decide) | exact room3 (by assumption) (by decide) | walk_at "om")) (by (first | exact room2 (by assumption) (by decide) | exact room3 (by assumption) (by decide) | walk_at "om")) ?_
            intro x29 t29 t30 o29 h29 tk29 F29 N29 nd29 hx29 hd29
            clear F26 N26
            (repeat' (first | (k_unfold; (try dsimp only)) | (first | (with_reducible first | ((show (_ : Flow → Shared → Prop) _ _); rename Flow → Shared → Prop => K9; rename KR K9 _ => kr9; rename KN K9 _ => kn9; (first | refine kn9 _ ?_ | refine kr9.ret _ _ ?_ | refine kr9.brk _ ?_ | refine kr9.cont _ ?_); clear kn9 kr9 K9; (try dsimp only)) | ((show (_ : Flow → Shared → Prop) _ _); (first | refine kn_go (by assumption) ?_ | refine kr_go (by assumption) ?_); (try dsimp only)) | ((show (_ : Bool → Shared → Prop) _ _); rename Bool → Shared → Prop => K9; rename KT K9 _ => kb9; refine kb9 _ _ ?_; clear kb9 K9; (try dsimp only)))) | ((with_reducible show wpC _ _ _ _ _ _); (first | (((with_reducible show wpC _ _ (call (Value.type "range") _ _) _ _ _); refine wpC_any ?_)) | (((with_reducible show wpC _ _ (spliced _) _ _ _); show wpC _ _ (spliced []) _ _ _; refine spliced_nil_C ?_)))) | (dsimp only; (with_reducible show wpC _ _ _ _ _ _)) | ((fail_if_success (with_reducible show wpC _ _ _ _ _ _)); (first | walk1 | (dsimp only; walk1)))))
            rename_i h31 tk31 t31 u31 v31 hr31 F31 N31 K31
            refine compGo_range (n := x29.toNat) (m := _) (news := (d, o29) :: (c, W.listOf vs'.toArray cap) :: (D25, _) :: (L' + 1 + 1 + 1, os26) :: (L' + 1 + 1, oc) :: (L' + 1, o2) :: []) (fun i ys nw => ∃ o' t' zs ten cap9, DeckO w c (at6 + 2 + 1 + (i : Int)) t' o' ∧ nw = (d, o') :: (c, W.listOf vs'.toArray cap) :: (D25, W.listOf (List.toArray ten) cap9) :: (L' + 1 + 1 + 1, os26) :: (L' + 1 + 1, oc) :: (L' + 1, o2) :: [] ∧ IntsAre ten [0, 1, 2, 127, 128, 129, 130, 254, 255, 7] ∧ IntsAre ys zs ∧ zs.length = i ∧ ∀ z ∈ zs, 0 ≤ z ∧ z < 256)
              hh (by decide) rfl rfl F31 N31 nd29 hr31 (small_one (by lia) (by lia) (by lia) (by lia)) (by rw [rangeSize_nat, Int.sub_zero]) (by rw [sizeLine_eq]; lia) ⟨o29, t30, [], _, _, by simpa using hd29, rfl, .cons _ _ (.cons _ _ (.cons _ _ (.cons _ _ (.cons _ _ (.cons _ _ (.cons _ _ (.cons _ _ (.cons _ _ (.cons _ _ (.nil)))))))))), .nil, rfl, fun _ h => nomatch h⟩ ?step2 ?fin2
            case step2 =>
              rintro i v ys nw I oI C oC D m₂ h tk hi9 ⟨tv, rfl⟩ ⟨o', t', zs, ten, cap9, hd', rfl, z0, z1, z2, z3⟩ hC9 hx9 F5 N5 nd5
              (repeat' (first | (k_unfold; (try dsimp only)) | (first | (with_reducible first | ((show (_ : Flow → Shared → Prop) _ _); rename Flow → Shared → Prop => K9; rename KR K9 _ => kr9; rename KN K9 _ => kn9; (first | refine kn9 _ ?_ | refine kr9.ret _ _ ?_ | refine kr9.brk _ ?_ | refine kr9.cont _ ?_); clear kn9 kr9 K9; (try dsimp only)) | ((show (_ : Flow → Shared → Prop) _ _); (first | refine kn_go (by assumption) ?_ | refine kr_go (by assumption) ?_); (try dsimp only)) | ((show (_ : Bool → Shared → Prop) _ _); rename Bool → Shared → Prop => K9; rename KT K9 _ => kb9; refine kb9 _ _ ?_; clear kb9 K9; (try dsimp only)))) | ((with_reducible show wpC _ _ _ _ _ _); (first | (((with_reducible show wpC _ _ (eval (Expr.Subscript _ (Expr.Call _ _ _ _) _) _) _ _ _); refine eval_Subscript_CC ?_)) | ((with_reducible show wpC _ _ (call (Value.ref 218) _ _) _ _ _); (try dsimp only); (refine' use_drawP ?zqp ?zqN ?zqnd ?zqC ?zqo ?zqlo ?zqa ?zqb ?zqc ?zqe ?zqF ?zqB ?zqX ?zqT ?zqA ?zqf ?zqk ?zqh ?zqd ?zqu ?_; (case zqN => k_asm); (case zqp => (first | exact List.Perm.refl _ | exact (List.perm_append_comm (l₁ := [_]) (l₂ := [_, _])).append_right _ | exact (List.perm_append_comm (l₁ := [_, _]) (l₂ := [_, _])).append_right _ | exact (List.perm_append_comm (l₁ := [_, _, _]) (l₂ := [_, _])).append_right _ | exact (List.perm_append_comm (l₁ := [_, _, _, _]) (l₂ := [_, _])).append_right _)); (case zqnd => (first | assumption | (refine nodup_push ?zqn1 ?zqn2; (case zqn2 => first | assumption | (refine nodup_push ?zqm1 ?zqm2; (case zqm2 => assumption); (case zqm1 => exact allLt_ne (by first | assumption | walk_at "altl")))); (case zqn1 => exact allLt_ne (by first | assumption | walk_at "altl"))) | (first | assumption | (refine nodup_join ?zqna ?zqnb ?zqnc; (case zqna => (simp only [List.map_cons, List.map_nil]; first | (simp only [List.nodup_cons, List.not_mem_nil, not_false_eq_true, List.nodup_nil, and_self]; done) | (refine nd2 ?_ <;> k_ne) | (refine nd3 ?_ ?_ ?_ <;> k_ne) | (refine nd4 ?_ ?_ ?_ ?_ ?_ ?_ <;> k_ne))); (case zqnb => (simp only [List.map_cons, List.map_nil]; walk_at "off")); (case zqnc => assumption)) | fail "nodup") | fail "nodupP")); (case zqC => assumption); (case zqo => assumption); (case zqlo => assumption); (case zqa => walk_at "om"); (case zqb => walk_at "om"); (case zqc => walk_at "om"); (case zqe => walk_at "om"); (case zqF => k_asm); (case zqB => k_asm); (case zqX => k_asm); (case zqT => k_asm); (case zqA => k_asm); (case zqf => exact rfl); (case zqk => exact rfl); (case zqh => assumption); (case zqd => (first | exact room2 (by assumption) (by decide) | exact room3 (by assumption) (by decide) | walk_at "om")); (case zqu => (first | exact room2 (by assumption) (by decide) | exact room3 (by assumption) (by decide) | walk_at "om"))); intro _ _ _ _ _ _ _ _ _ _ _; (try k_sweep); dsimp only) | (((with_reducible show wpC _ _ (eval (Expr.Name _ _) _) _ _ _); refine wpC_any ?_)) | (((with_reducible show wpC _ _ (eval (Expr.Call (Expr.Name _ _) _ _ _) _) _ _ _); refine eval_CallName_C ?_)) | (((with_reducible show wpC _ _ (callWith _ (Value.ref _) _ _ _) _ _ _); first | (refine' callWith_CK0 ?zqk1 ?zqk2 ?_; (case zqk1 => k_in); (case zqk2 => k_is)) | (refine' callWith_CK ?zqk1 ?zqk2 ?_; (case zqk1 => k_asm); (case zqk2 => k_is)))))) | (dsimp only; (with_reducible show wpC _ _ _ _ _ _)) | ((fail_if_success (with_reducible show wpC _ _ _ _ _ _)); (first | walk1 | (dsimp only; walk1)))))
              rename_i x3 t3 t4 o3 h3 tk3 F3 N3 nd3 hx3 hd3 n9 t9' hn9
              have pp := (List.perm_append_comm (l₁ := [(d, o3), (c, W.listOf vs'.toArray cap)]) (l₂ := [(I, oI), (C, oC), (D, LCg.lst ys)])).append_right ((D25, W.listOf (List.toArray ten) cap9) :: (L' + 1 + 1 + 1, os26) :: (L' + 1 + 1, oc) :: (L' + 1, o2) :: [])
              refine ⟨h3, tk3, (d, o3) :: (c, W.listOf vs'.toArray cap) :: (D25, W.listOf (List.toArray ten) cap9) :: (L' + 1 + 1 + 1, os26) :: (L' + 1 + 1, oc) :: (L' + 1, o2) :: [], rfl, F3, news_perm pp N3, nodup_perm pp nd3, o3, t4, zs ++ [n9], ten, cap9, deckO_eq hd3 (by push_cast; lia), rfl, z0, IntsAre.append z1 (.cons _ _ .nil), by rw [List.length_append, List.length_singleton, z2], fun z hz => ?_⟩
              rcases List.mem_append.mp hz with hz | hz
              · exact z3 z hz
              · rw [List.mem_singleton.mp hz]
                exact hn9
            case fin2 =>
              rintro D h tk ys nw F5 N5 nd5 ⟨o', t', zs, ten, cap9, hd', rfl, z0, z1, z2, z3⟩
              (repeat' (first | (k_unfold; (try dsimp only)) | (first | (with_reducible first | ((show (_ : Flow → Shared → Prop) _ _); rename Flow → Shared → Prop => K9; rename KR K9 _ => kr9; rename KN K9 _ => kn9; (first | refine kn9 _ ?_ | refine kr9.ret _ _ ?_ | refine kr9.brk _ ?_ | refine kr9.cont _ ?_); clear kn9 kr9 K9; (try dsimp only)) | ((show (_ : Flow → Shared → Prop) _ _); (first | refine kn_go (by assumption) ?_ | refine kr_go (by assumption) ?_); (try dsimp only)) | ((show (_ : Bool → Shared → Prop) _ _); rename Bool → Shared → Prop => K9; rename KT K9 _ => kb9; refine kb9 _ _ ?_; clear kb9 K9; (try dsimp only)))) | ((with_reducible show wpC _ _ _ _ _ _); (first | (((with_reducible show wpC _ _ (call (Value.type "bytes") _ _) _ _ _); refine wpC_any ?_)) | (((with_reducible show wpC _ _ (spliced _) _ _ _); show wpC _ _ (spliced []) _ _ _; refine spliced_nil_C ?_)))) | (dsimp only; (with_reducible show wpC _ _ _ _ _ _)) | ((fail_if_success (with_reducible show wpC _ _ _ _ _ _)); (first | walk1 | (dsimp only; walk1)))))
              refine bytes_list F5 N5 (News.isList N5 (.head _)) z1 z3 (by lia) hh ?_
              intro h33 t33 k33 F33 N33
              have zd : (byteArr zs).size ≤ 8 := by rw [byteArr_size]; lia
              generalize byteArr zs = bd at zd
              have N34 := drop1 N33
              clear N33 F5 N5 F31 N31
              (repeat' (first | (k_unfold; (try dsimp only)) | (first | (with_reducible first | ((show (_ : Flow → Shared → Prop) _ _); rename Flow → Shared → Prop => K9; rename KR K9 _ => kr9; rename KN K9 _ => kn9; (first | refine kn9 _ ?_ | refine kr9.ret _ _ ?_ | refine kr9.brk _ ?_ | refine kr9.cont _ ?_); clear kn9 kr9 K9; (try dsimp only)) | ((show (_ : Flow → Shared → Prop) _ _); (first | refine kn_go (by assumption) ?_ | refine kr_go (by assumption) ?_); (try dsimp only)) | ((show (_ : Bool → Shared → Prop) _ _); rename Bool → Shared → Prop => K9; rename KT K9 _ => kb9; refine kb9 _ _ ?_; clear kb9 K9; (try dsimp only)))) | ((with_reducible show wpC _ _ _ _ _ _); (first | (((with_reducible show wpC _ _ (exec (Stmt.Return (some (Expr.BoolOp _ _ _)) _) _) _ _ _); (refine exec_Return_C ?_))) | (((with_reducible show wpC _ _ (eval (Expr.BoolOp BoolOp.And [_, _] _) _) _ _ _); (refine eval_And2_C ?_))) | (((with_reducible show wpC _ _ (execs (_ :: _) _) _ _ _); refine execs_cons_G ?_; intro _ _ _)) | (((with_reducible show wpC _ _ (eval (Expr.Call (Expr.Name _ _) _ _ _) _) _ _ _); refine eval_CallName_C ?_)) | (((with_reducible show wpC _ _ (callWith _ (Value.ref _) _ _ _) _ _ _); first | (refine' callWith_CK0 ?zqk1 ?zqk2 ?_; (case zqk1 => k_in); (case zqk2 => k_is)) | (refine' callWith_CK ?zqk1 ?zqk2 ?_; (case zqk1 => k_asm); (case zqk2 => k_is)))))) | (dsimp only; (with_reducible show wpC _ _ _ _ _ _)) | ((fail_if_success (with_reducible show wpC _ _ _ _ _ _)); (first | walk1 | (dsimp only; walk1)))))
              rename News _ _ _ _ => N34
              rename Fr _ _ _ _ => F34
              refine use_ctrB (read_right w hC hd' lo (by walk_at "om") (by walk_at "om") (by walk_at "om")) F34 N34 nd29 B' X T hA rfl rfl hh (by (first | exact room2 (by assumption) (by decide) | exact room3 (by assumption) (by decide) | walk_at "om")) (by (first | exact room2 (by assumption) (by decide) | exact room3 (by assumption) (by decide) | walk_at "om")) ?_
              rintro v35 h35 tk35 l35 F35 N35 nd35 ⟨rfl, t35, o35, hd35, rfl⟩
              simp only [List.cons_append, List.nil_append] at N35 nd35
              clear F34 N34
              (repeat' (first | (k_unfold; (try dsimp only)) | (first | (with_reducible first | ((show (_ : Flow → Shared → Prop) _ _); rename Flow → Shared → Prop => K9; rename KR K9 _ => kr9; rename KN K9 _ => kn9; (first | refine kn9 _ ?_ | refine kr9.ret _ _ ?_ | refine kr9.brk _ ?_ | refine kr9.cont _ ?_); clear kn9 kr9 K9; (try dsimp only)) | ((show (_ : Flow → Shared → Prop) _ _); (first | refine kn_go (by assumption) ?_ | refine kr_go (by assumption) ?_); (try dsimp only)) | ((show (_ : Bool → Shared → Prop) _ _); rename Bool → Shared → Prop => K9; rename KT K9 _ => kb9; refine kb9 _ _ ?_; clear kb9 K9; (try dsimp only)))) | ((with_reducible show wpC _ _ _ _ _ _); (first | (((with_reducible show wpC _ _ (eval (Expr.Call (Expr.Name _ _) _ _ _) _) _ _ _); refine eval_CallName_C ?_)) | (((with_reducible show wpC _ _ (callWith _ (Value.ref _) _ _ _) _ _ _); first | (refine' callWith_CK0 ?zqk1 ?zqk2 ?_; (case zqk1 => k_in); (case zqk2 => k_is)) | (refine' callWith_CK ?zqk1 ?zqk2 ?_; (case zqk1 => k_asm); (case zqk2 => k_is)))))) | (dsimp only; (with_reducible show wpC _ _ _ _ _ _)) | ((fail_if_success (with_reducible show wpC _ _ _ _ _ _)); (first | walk1 | (dsimp only; walk1)))))
              · rename true = false => hb9
                cases hb9
              refine use_ctrB (read_right w hC hd35 lo (by walk_at "om") (by walk_at "om") (by (try simp only [Array.size_append]); walk_at "om")) F35 N35 nd35 B' X T hA rfl rfl hh (by (first | exact room2 (by assumption) (by decide) | exact room3 (by assumption) (by decide) | walk_at "om")) (by (first | exact room2 (by assumption) (by decide) | exact room3 (by assumption) (by decide) | walk_at "om")) ?_
              rintro v36 h36 tk36 l36 F36 N36 nd36 ⟨rfl, t36, o36, hd36, rfl⟩
              clear N35 F35 N36
              dsimp only
              (first | (with_reducible first | ((show (_ : Flow → Shared → Prop) _ _); rename Flow → Shared → Prop => K9; rename KR K9 _ => kr9; rename KN K9 _ => kn9; (first | refine kn9 _ ?_ | refine kr9.ret _ _ ?_ | refine kr9.brk _ ?_ | refine kr9.cont _ ?_); clear kn9 kr9 K9; (try dsimp only)) | ((show (_ : Flow → Shared → Prop) _ _); (first | refine kn_go (by assumption) ?_ | refine kr_go (by assumption) ?_); (try dsimp only)) | ((show (_ : Bool → Shared → Prop) _ _); rename Bool → Shared → Prop => K9; rename KT K9 _ => kb9; refine kb9 _ _ ?_; clear kb9 K9; (try dsimp only))))
              refine ⟨.inl ⟨.bool true, .bool true, [], rfl, ?rs, ?rd, ?po, ?un⟩, .of_keep F36.keep, rfl, .of_eq hg⟩
              case rs => exact raisesW_false (by wrow_none_raised)
              case rd => w_reads
              case un => exact unshared_nil
              case po => exact law_post _)
end
end Mine
theorem PySem.Challenge.cw_nt0489_01_holds : PySem.Challenge.rw_nt0489_01.Holds :=
  Mine.law_holds
