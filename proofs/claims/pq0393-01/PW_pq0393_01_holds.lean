import PyProof.Rows.All
import Wide.All
import OpenK.AllK
import Wide.FinOn
import PySem.Challenge.RW_pq0393_01
open PySem PySem.W PyProof.Rows PySem.Calls PySem.Spec
set_option linter.all false
set_option Elab.async false
set_option maxRecDepth 100000
namespace Mine
/-! THE LOGIC S: wpAny and codeAny over the contexts whose stack holds none of the codes that 'exported' asks for -/
noncomputable def exportIds : List String := ["bytearray.__contains__", "bytearray.__mod__", "bytearray.__rmod__", "_struct.pack_into.held", "bytearray.find.held"] ++ Builtin.Bytes.decodersThatHold
noncomputable def benign : Code → Bool
  | .builtin id _ => !exportIds.contains id
  | _ => true
noncomputable def CleanB (Γ : PySem.Ctx) : Prop := ∀ x ∈ Γ.below, benign x.1 = true
noncomputable def wpS {α : Type} (M : Model) (A : Around) (t : Sem α) (Q : α → Shared → Prop) (E : Value → Shared → Prop) (s : Shared) : Prop :=
  ∀ Γ p, Γ.In A → CleanB Γ → benign Γ.code = true → Sem.wp M Γ t (fun a _ s' => Q a s') (fun e _ s' => E e s') p s
noncomputable def codeS (M : Model) (A : Around) (c : Code) (R : Result → Shared → Prop) (s : Shared) : Prop :=
  ∀ Γ p, Γ.code = c → Γ.Below A → CleanB Γ → wpCode M Γ R p s

section
variable {α β : Type} {M : Model} {A : Around} {E : Value → Shared → Prop} {s : Shared}
theorem wpS_any {t : Sem α} {Q : α → Shared → Prop} (h : wpAny M A t Q E s) : wpS M A t Q E s := fun Γ p hΓ _ _ => h Γ p hΓ
theorem codeS_any {c : Code} {R : Result → Shared → Prop} (h : codeAny M A c R s) : codeS M A c R s := fun Γ p hc hΓ _ => h Γ p hc hΓ
theorem wpS_mono {t : Sem α} {Q Q' : α → Shared → Prop} {E' : Value → Shared → Prop} (h : wpS M A t Q E s) (hQ : ∀ a s, Q a s → Q' a s) (hE : ∀ e s, E e s → E' e s) : wpS M A t Q' E' s :=
  fun Γ p hΓ hc hb => Sem.wp_mono M Γ t (fun a _ s => hQ a s) (fun e _ s => hE e s) p s (h Γ p hΓ hc hb)
theorem codeS_mono {c : Code} {R R' : Result → Shared → Prop} (h : codeS M A c R s) (hR : ∀ r s, R r s → R' r s) : codeS M A c R' s :=
  fun Γ p hc hΓ hb => wpCode_mono hR (h Γ p hc hΓ hb)
theorem wpS_bind {m : Sem α} {f : α → Sem β} {Q : β → Shared → Prop} (h : wpS M A m (fun a s' => wpS M A (f a) Q E s') E s) : wpS M A (m >>= f) Q E s :=
  fun Γ p hΓ hc hb => by
    rw [Sem.wp_bind']
    exact Sem.wp_mono M Γ m (fun a p' s' h' => h' Γ p' hΓ hc hb) (fun _ _ _ h' => h') p s (h Γ p hΓ hc hb)
theorem wpS_pure {a : α} {Q : α → Shared → Prop} (h : Q a s) : wpS M A (pure a) Q E s := wpS_any (wpAny_pure h)
theorem wpS_of_eq {t : Sem α} {a : α} {Q : α → Shared → Prop} (e : t = pure a) (h : Q a s) : wpS M A t Q E s := e ▸ wpS_pure h
theorem wpS_holding {vs : List Value} {m : Sem α} {Q : α → Shared → Prop} (h : wpS M A m Q E s) : wpS M A (holding vs m) Q E s :=
  fun Γ p hΓ hc hb => by rw [Sem.wp_holding]; exact h Γ p hΓ hc hb
theorem wpS_keep {vs : List Value} {m : Sem α} {Q : α → Shared → Prop} (h : wpS M A m Q E s) : wpS M A (m.keep vs) Q E s :=
  fun Γ p hΓ hc hb => by rw [Sem.wp_keep]; exact h Γ p hΓ hc hb
theorem wpS_onRaise {m : Sem α} {k : Value → Sem Unit} {Q : α → Shared → Prop} (h : wpS M A m Q (fun e s' => wpS M A (k e) (fun _ s'' => E e s'') E s') s) : wpS M A (m.onRaise k) Q E s :=
  fun Γ p hΓ hc hb => by
    rw [Sem.wp_onRaise]
    exact Sem.wp_mono M Γ m (fun _ _ _ h' => h') (fun e p' s' h' => h' Γ p' hΓ hc hb) p s (h Γ p hΓ hc hb)
theorem wpS_attempt {m : Sem α} {Q : Except Value α → Shared → Prop} (h : wpS M A m (fun a => Q (.ok a)) (fun e => Q (.error e)) s) : wpS M A m.attempt Q E s :=
  fun Γ p hΓ hc hb => by rw [Sem.wp_attempt]; exact h Γ p hΓ hc hb
theorem CleanB.enter {Γ : PySem.Ctx} {c : Code} {hd : Option Value} {p : Pos} (h : CleanB Γ) (hb : benign Γ.code = true) : CleanB (Γ.enter c hd p) := fun x hx => by
  rcases List.mem_cons.mp hx with rfl | hx
  · exact hb
  · exact h x hx
theorem wpS_run {c : Code} {h : Option Value} {Q : Flow → Shared → Prop} (hc : codeS M (A.mark h) c (fun r s' => match r with | .ok f => Q f s' | .error e => E e s') s) (hnb : h ≠ some byPass := by intro x; cases x) : wpS M A (run c h) Q E s :=
  fun Γ p hΓ hcl hb => by rw [Sem.wp_run]; exact hc _ p rfl (hΓ.enter c h p hnb) (hcl.enter hb)
theorem wpS_runValue {c : Code} {Q : Value → Shared → Prop} (hc : codeS M A c (fun r s' => match r with | .ok (.ret v) => Q v s' | .ok _ => False | .error e => E e s') s) : wpS M A (runValue c) Q E s :=
  fun Γ p hΓ hcl hb => by rw [Sem.wp_runValue]; exact hc _ p rfl (hΓ.enter c none p (by intro x; cases x)) (hcl.enter hb)
theorem wpS_call {f : Value} {pos : List Value} {kw : List (Str × Value)} {Q : Value → Shared → Prop}
    (hc : codeS M A (.call f ⟨pos, kw⟩) (fun r s' => match r with | .ok (.ret v) => Q v s' | .ok _ => False | .error e => E e s') s) : wpS M A (call f pos kw) Q E s := wpS_runValue hc
theorem codeS_of_tree {c : Code} {R : Result → Shared → Prop} (hb : benign c = true)
    (h : wpS M (A.under c) (M.den c) (fun fin s' => match fin with | .done f => R (.ok f) s' | .again c' => c'.quiet = true ∧ codeS M A c' R s') (fun e s' => R (.error e) s') s) : codeS M A c R s := fun Γ p hc hΓ hcl => by
  rw [wpCode_iff_wp, hc]
  refine Sem.wp_mono M Γ _ (fun fin p' s' h' => ?_) (fun _ _ _ h' => h') p s (h Γ p (hc ▸ hΓ.in) hcl (hc ▸ hb))
  cases fin with
  | done f => exact h'
  | again c' => exact ⟨h'.1, h'.2 (Γ.goto c') p' rfl (hΓ.goto c') hcl⟩
end

section
variable {prog : Program} {w : World} {A : Around} {E : Value → Shared → Prop} {s : Shared} {R : Result → Shared → Prop}
theorem codeS_builtin {id : String} {args : Args} {b : Builtin} (hb : entryFor table id = some b) (hn : exportIds.contains id = false)
    (h : wpS (model prog w) (A.under (.builtin id args)) (b args) (fun fin s' => match fin with | .done f => R (.ok f) s' | .again c' => c'.quiet = true ∧ codeS (model prog w) A c' R s') (fun e s' => R (.error e) s') s) :
    codeS (model prog w) A (.builtin id args) R s := by
  refine codeS_of_tree (by show (!exportIds.contains id) = true; rw [hn]; rfl) ?_
  show wpS _ _ (match entryFor table id with | some b => b args | none => unsupported ((withoutEnding? id "#data").getD id)) _ _ s
  rw [hb]; exact h
theorem codeS_call_builtin {id : String} {args : Args} {b : Builtin} (hq : plainId id = true) (hb : entryFor table id = some b) (hn : exportIds.contains id = false)
    (h : wpAny (model prog w) A.in1 (checkBuiltinCall id args) (fun _ s₁ => wpS (model prog w) A.in1 (b args)
      (fun fin s' => match fin with | .done f => R (.ok f) s' | .again c' => c'.quiet = true ∧ codeS (model prog w) A c' R s') (fun e s' => R (.error e) s') s₁)
      (fun e s' => R (.error e) s') s) : codeS (model prog w) A (.call (.builtin id) args) R s := by
  refine codeS_of_tree rfl ?_
  show wpS _ A.in1 (do checkBuiltinCall id args; again (.builtin id args)) _ _ s
  refine wpS_bind (wpS_any (wpAny_mono h (fun _ s₁ h₁ => wpS_pure (And.intro (plainId_quiet hq args) (codeS_builtin hb hn ?_))) fun _ _ h' => h'))
  rw [Around.under_plainId hq args]; exact h₁
theorem codeS_func {body : List Stmt} {env : Env}
    (h : wpS (model prog w) (A.deeper env) (execs body env) (fun f s' => R (.ok (.ret (match f with | .ret v => v | _ => .none))) s')
      (fun e s' => wpAny (model prog w) (A.deeper env) (leaving env e) (fun _ s'' => R (.error e) s'') (fun e' s'' => R (.error e') s'') s') s) : codeS (model prog w) A (.func body env) R s := by
  refine codeS_of_tree rfl ?_
  show wpS _ (A.deeper env) (do point; match ← (execs body env).onRaise (leaving env) with | .ret v => ret v | _ => ret .none) _ _ s
  refine wpS_bind (wpS_any (wpAny_point (wpS_bind (wpS_onRaise (wpS_mono h (fun f s' h' => ?_) fun _ _ h' => wpS_any h')))))
  cases f <;> exact wpS_pure h'
theorem codeS_call_function {a : Addr} {args : Args} {o : Obj} {fd : FuncData} {body : List Stmt} (hroom : A.depth < recursionLimit) (ho : s.heap.get? a = some o)
    (hd' : o.data = .func fd) (hco : fd.scope.isCoroutine = false) (hgen : fd.scope.isGenerator = false) (hbody : fd.body = .stmts body) (hcd : s.heap.CodeRec fd.code fd.qualname)
    (h : wpAny (model prog w) A.in1 (bindArgs fd args) (fun binds s₁ =>
      wpAny (model prog w) A.in1 (newFunctionEnv fd.scope fd.globals fd.closure binds (fd.qualname ++ ".<locals>.") (some a) fd.code none fd.builtins)
        (fun env s₂ => s₂.heap.NoLimit ∧ codeS (model prog w) A (.func body env) R s₂) (fun e s' => R (.error e) s') s₁) (fun e s' => R (.error e) s') s) :
    codeS (model prog w) A (.call (.ref a) args) R s := by
  refine codeS_of_tree rfl ?_
  show wpS _ A.in1 (callAny (.ref a) args) _ _ s
  refine wpS_any ?_
  simp only [callAny]
  refine wpAny_bind (wpAny_load ho ?_)
  obtain ⟨c, oc, vs, tq, hc, hoc, hdc, hq⟩ := hcd
  simp only [hd', callFunction, hco, hgen, hbody, hc]
  rw [hc] at h
  refine wpAny_bind (m := field (.ref c) 1) (wpAny_field hoc hdc hq (wpAny_bind (wpAny_pure ?_)))
  exact wpAny_bind (wpAny_mono h (fun binds s₁ h₁ => wpAny_bind (wpAny_mono h₁ (fun env s₂ h₂ => wpAny_bind (wpAny_enterFrame h₂.1 hroom
    (wpAny_pure (And.intro rfl h₂.2)))) fun _ _ h' => h')) fun _ _ h' => h')
end

theorem ids_ne {id : String} (hb : exportIds.contains id = false) {k : String} (hk : exportIds.contains k = true) : ¬ id = k := fun e => by
  subst e; rw [hb] at hk; cases hk
/-- 'exported' under S: no code of the stack lends the object -/
theorem exported_none {self : Value} {c : Code} {p : Pos} (hb : benign c = true) :
    (match (c, p) with
    | (.builtin "bytearray.__contains__" ⟨v :: _, _⟩, _) | (.builtin "bytearray.__mod__" ⟨v :: _, _⟩, _)
    | (.builtin "bytearray.__rmod__" ⟨_ :: v :: _, _⟩, _) | (.builtin "_struct.pack_into.held" ⟨v :: _, _⟩, _) => Builtin.Bytes.sameRef v self
    | (.builtin "bytearray.find.held" ⟨_ :: _ :: held, _⟩, _) => held.any (Builtin.Bytes.sameRef self)
    | (.builtin id ⟨v :: _, _⟩, _) => Builtin.Bytes.sameRef v self && Builtin.Bytes.decodersThatHold.contains id
    | _ => false) = false := by
  cases c with
  | builtin id args =>
    rw [benign, Bool.not_eq_true'] at hb
    have n1 := ids_ne hb (k := "bytearray.__contains__") (by decide +kernel)
    have n2 := ids_ne hb (k := "bytearray.__mod__") (by decide +kernel)
    have n3 := ids_ne hb (k := "bytearray.__rmod__") (by decide +kernel)
    have n4 := ids_ne hb (k := "_struct.pack_into.held") (by decide +kernel)
    have n5 := ids_ne hb (k := "bytearray.find.held") (by decide +kernel)
    have hc : Builtin.Bytes.decodersThatHold.contains id = false := by
      unfold exportIds at hb
      rw [List.contains_eq_any_beq, List.any_append, Bool.or_eq_false_iff] at hb
      rw [List.contains_eq_any_beq, hb.2]
    delta exported_none.match_1
    rcases args with ⟨_ | ⟨v, r⟩, kw⟩
    · change dite (id = "bytearray.__contains__") _ _ = false
      rw [dif_neg n1, dif_neg n2, dif_neg n3, dif_neg n4, dif_neg n5]
    · change dite (id = "bytearray.__contains__") _ _ = false
      rw [dif_neg n1, dif_neg n2, dif_neg n3, dif_neg n4, dif_neg n5]
      show (Builtin.Bytes.sameRef v self && Builtin.Bytes.decodersThatHold.contains id) = false
      rw [hc, Bool.and_false]
  | _ => rfl
theorem wpS_exported {M : Model} {A : Around} {E : Value → Shared → Prop} {s : Shared} {self : Value} {Q : Bool → Shared → Prop} (h : Q false s) : wpS M A (Builtin.Bytes.exported self) Q E s := fun Γ p _ hcl hb => by
  show Q (((Γ.code, p) :: Γ.below).any _) s
  rw [show (((Γ.code, p) :: Γ.below).any _) = false from List.any_eq_false.mpr fun x hx => by
    rcases List.mem_cons.mp hx with rfl | hx
    · exact Bool.eq_false_iff.mp (exported_none hb)
    · exact Bool.eq_false_iff.mp (exported_none (c := x.1) (p := x.2) (hcl x hx))]
  exact h
/-! the head under S: the claim's caller stands alone, so its stack lends nothing -/
theorem caller_clean : CleanB (⟨.builtin "claim.caller" {}, none, none, [], none⟩ : PySem.Ctx) := fun _ hx => nomatch hx
theorem caller_benign : benign (.builtin "claim.caller" {}) = true := by decide +kernel
theorem wpS_caller {prog : Program} {w : World} {t : Sem PySem.Fin} {s : Shared} {R : Result → Shared → Prop} (hreg : s.asleep)
    (h : wpS (model prog w) callerA t (fun fin s' => ∃ f, fin = .done f ∧ (R (.ok f) s' ∧ AllBare s'.gens)) (fun e s' => R (.error e) s' ∧ AllBare s'.gens) s) :
    ∃ n r s' s'', runN (denote table) prog w n s ⟨t, .builtin "claim.caller" {}, default, []⟩ = .halted (outcomeOf r) s' ∧
      schedN (denote table) prog w n (.single s ⟨t, .builtin "claim.caller" {}, default, []⟩) = .halted (outcomeOf r) s' ∧ s'.forget = s''.forget ∧ R r s'' := by
  have h1 := h ⟨.builtin "claim.caller" {}, none, none, [], none⟩ default caller_in caller_clean caller_benign
  obtain ⟨n, r, a, b, h2, h3, h4, h5⟩ := wp_halts_full (M := model prog w) (R := R) hreg (Sem.wp_mono _ _ t (fun fin p' s' hf => by
    obtain ⟨f, rfl, q1, q2⟩ := hf
    exact ⟨q1, leftWithCleanup_false_of_bare q2⟩) (fun e p' s' hf => ⟨hf.1, leftWithCleanup_false_of_bare hf.2⟩) default s h1)
  exact ⟨n, r, b, a, h3, h2, h4, h5⟩
/-- what is asked of the law's call: as the kit's WalkO, under S -/
noncomputable abbrev WalkOS (q : Program) (loose : List Str) (XP : (Str → Option Value) → Heap → Prop) (YP : World → Heap → Prop) (r : RowW) (d : DefRec) (kwd : List (Str × PySem.Expr)) : Prop :=
  ∀ (w : World) (s₀ s₁ : Shared) (mg mb : Str → Option Value), Ground q loose r.records XP w s₀ mg mb s₁.heap → YP w s₁.heap → ∀ (a : Addr) (o : Obj) (pm cd doc dV kV : Value), s₁.heap.get? a = some o →
    o.data = .func { docDef d.name d.params d.body d.scope pm cd doc with defaults := dV, kwdefaults := kV } → s₁.heap.CodeRec cd d.name → Dflts mg s₁.heap d.params kwd dV kV → mg d.name = some (.ref a) → s₁.gens = #[] →
    ∀ (args : List WData) (vals : List Value) (as : List Addr), r.claim.pre args = true → WData.layableAll args = true → ReadsAllW r.records (classAt s₀.heap) s₁.heap vals args as → WellAll w.params s₁.heap vals args → (∀ a ∈ as, (a == sysModules) = false) →
      wpS (model r.prog w) callerA (PySem.call (.ref a) vals) (fun v s' => GoodWG r.claim (classAt s₀.heap) (ExcName.means s₀.heap) args s₁ (.ok (.ret v)) s')
        (fun e s' => GoodWG r.claim (classAt s₀.heap) (ExcName.means s₀.heap) args s₁ (.error e) s') s₁
theorem open_S {r : OpenRow} {q : Program} {loose : List Str} {Xt : Shared → Bool} {XP : (Str → Option Value) → Heap → Prop} {α : Type} {Yf : Shared → α} {Ya : World → α} {YP : World → Heap → Prop} {d : DefRec} {kwd : List (Str × PySem.Expr)} {N : Nat}
    (left : LeftO r.prog q loose Xt Yf Ya N) (hY : ∀ w s, Yf s = Ya w → YP w s.heap) (hYk : ∀ w h h', YP w h → (∀ b o, h.get? b = some o → h'.get? b = some o) → YP w h')
    (hX : ∀ s, Xt s = true → XP (s.heap.nsMap mainGlobals) s.heap) (hXk : ∀ mg h h', XP mg h → (∀ b o, h.get? b = some o → h'.get? b = some o) → XP mg h')
    (hdef : defOf q r.name = some (d, kwd)) (hp : r.prog.theDef r.name = some (d.params, d.body, d.scope)) (hk : kwWritten? d.params.kwonlyargs d.params.kw_defaults = some kwd) (hRf : ∀ s, Xt s = true → RecFacts r.records s.heap) (hwr : (!r.writes || r.records.isEmpty) = true)
    (k1 : r.wellSaid = true) (ok : (chainsOk q && opensWell r.prog && (frees r.toRowW && r.within.isEmpty)) = true) (hb : r.prog.bare) (hw : r.toRowW.promised)
    (call : WalkOS q loose XP YP r.toRowW d kwd) : r.Holds := by
  simp only [Bool.and_eq_true] at ok
  obtain ⟨⟨hch, o1⟩, k5, k6⟩ := ok
  obtain ⟨hsame, hu, ha, hap, hm⟩ := frees_parts k5
  have hwi : r.toRowW.claim.within = [] := List.isEmpty_iff.mp k6
  refine ⟨k1, hw, ⟨hb, o1, by show r.makers.map _ = []; rw [hm]; rfl⟩, hw.witness, fun w => ?_⟩
  have back := left.behind (XP := fun mg h => XP mg h ∧ RecFacts r.records h) (fun s hs => ⟨hX s hs, hRf s hs⟩) hch w
  refine ⟨back.1, fun s' hs' => ?_⟩
  obtain ⟨s₀, hf, hg0, s, hT, hz, hgens, hg, GR, y⟩ := back.2 s' hs'
  obtain ⟨g1, g2, g3, g4, g5, g6, ⟨gx, RF⟩, g8, g9, g10, g11, g12⟩ := GR
  have G0 : Ground q loose [] XP w s (s.heap.nsMap mainGlobals) (s.heap.nsMap builtinsNs) s.heap := ⟨g1, g2, g3, g4, g5, g6, gx, g8, g9, g10, g11, g12⟩
  have G : Ground q loose r.records XP w s _ _ s.heap := RF.ground G0
  have hgens : s.gens = #[] := Array.eq_empty_of_size_eq_zero (beq_iff_eq.mp hgens)
  refine ⟨s₀, hf, hg0, s, hT, fun n hn => ?_, RF.1, RF.2.1, fun args hpre hlay ord hord => ?_⟩
  · obtain rfl : n = r.name := by split at hn <;> simp_all
    exact pinned_of_view hg G0 hdef hp hk
  obtain ⟨⟨vs, s₁⟩, hlaid⟩ := Option.isSome_iff_exists.mp (layAllW_isSome (P := w.params) (ord := ord) G.has args r.args s (pre_splitW hpre).1)
  have keeps := layAllW_keeps _ _ _ hlaid
  have hal := layAllW_rest _ _ _ hlaid
  obtain ⟨as, hrd, hin, hold⟩ := reads_layAllW hord _ _ _ hlaid hlay s₁.heap (fun _ _ e => e)
  have L : Laid r.records w s s₁ args vs as := ⟨⟨ord, hord, hlaid⟩, hrd, hin, hold, keeps, hal.1.trans hgens, hal.2.2.1⟩
  have G₁ := G.keeps hXk keeps
  obtain ⟨a, o, pm, cd, doc, dV, kV, h1, h2, h3, h4, h5⟩ := G₁.fn hdef
  have run := call w s s₁ _ _ G₁ (hYk _ _ _ (hY w s y) keeps) a o pm cd doc dV kV h2 h3 h4 h5 (defOf_name hdef ▸ h1) L.gens args vs as hpre hlay L.reads L.well (L.low G.low)
  obtain ⟨k, res, s', s'', hrun, hsched, hfo, hgood⟩ := wpS_caller (prog := r.prog) (w := w) (t := do match ← nsGet mainNs r.name with
      | some f => do ret (← PySem.call f vs)
      | none => unsupported "claim.caller:no-such-global") (s := s₁) (R := fun res z => GoodWG r.toRowW.claim (classAt s.heap) (ExcName.means s.heap) args s₁ res z) (Shared.asleep_of_life hal.2.2.2 hz)
    (wpS_bind (wpS_any (wpAny_nsGet G₁.T.g (by
      rw [h1]
      exact wpS_bind (wpS_mono run (fun v z gd => wpS_pure ⟨_, rfl, gd, gd.2.2.2⟩) fun e z gd => ⟨gd, gd.2.2.2⟩)))))
  obtain ⟨ends, hos, -⟩ := hgood.laid (c := r.toRowW.claim) hsame hwi (ident_freeW hu ha hap) L
  obtain ⟨eh, _, _, eo, _⟩ := Shared.forget_eq hfo
  have ends := ends.congr eh
  rw [← eo] at hos
  have hlife : s'.heap.life = s.heap.life := (runN_life _ _ _ hrun).trans hal.2.2.2
  refine ⟨vs, s₁, hlaid, k, _, s', hsched, ?_, (fun _ i x hx => by rw [hgens] at hx; simp at hx), fun q => ⟨?_, ?_⟩, by rw [hlife], Shared.rest_eq hos⟩
  · rcases ends with ⟨v, rfl, d1, d2, d3, d4, d5⟩ | ⟨e, ob, cls, rfl, d1, d2, d3, d4, d5⟩
    · exact .inl ⟨v, rfl, d1, d2, d3, fun b o y _ => d4 b o y, d5⟩
    · exact .inr ⟨e, ob, cls, rfl, d1, d2, d3, d4, fun b o y _ => d5 b o y⟩
  · rw [eh]
    exact namesKept_of hT hg _ keeps hgood.2.1.old
  · rw [eh]
    exact noTable hwr q
/-- the law's text but for the statements that the look leaves out -/
noncomputable def view : Program := { PySem.Challenge.rw_pq0393_01.row.prog with main := { PySem.Challenge.rw_pq0393_01.row.prog.main with body := [38, 35, 32, 26, 23, 21, 18, 1].foldl List.eraseIdx PySem.Challenge.rw_pq0393_01.row.prog.main.body } }
noncomputable def lits : List (PySem.Str × WData) := [(Str.ofString "WORD", .int 115792089237316195423570985008687907853269984665640564039457584007913129639936), (Str.ofString "MOST_WORDS", .int 131072)]
/-! the written part of the heap is made by k_head: here alone, for the statement of left_all -/
local macro_rules | `(tactic| o_head $_:term) => `(tactic| assumption)
theorem pre (h : OpenRow.Holds (OpenLaw.row PySem.Challenge.rw_pq0393_01)) : OpenRow.Holds (OpenLaw.row PySem.Challenge.rw_pq0393_01) := by k_head
noncomputable def adrs : List Addr := [2, 3, 15, 17, 18, 20, 21, 22, 24, 25, 27, 28, 29, 31, 32, 34, 35, 36, 38, 39, 41, 42, 43, 45, 46, 48, 49, 50, 52, 53, 55, 56, 57, 59, 60, 62, 63, 64, 66, 67, 69, 70, 71, 73, 74, 76, 77, 78, 85, 87, 88, 90, 91, 92, 93, 94, 95, 98, 105, 106, 107, 110, 112, 113, 115, 116, 117, 119, 120, 122, 123, 124, 126, 127, 129, 130, 131, 133, 134, 136, 137, 138, 140, 141, 143, 144, 152, 154, 155, 157, 158, 159, 161, 162, 164, 165, 166, 168, 169, 171, 172, 173, 175, 176, 178, 179, 180, 182, 183, 185, 186, 187, 189, 190, 192, 193, 194, 196, 197, 199, 200, 201, 203, 204, 206, 207, 208, 209, 210, 211, 212, 222, 224, 225, 227, 228, 229, 230, 231, 232, 233, 243, 245, 246, 248, 249, 250, 252, 253, 255, 256, 257, 259, 260, 262, 263, 264, 266, 267, 269, 270, 271, 273, 274, 276, 277, 278, 280, 281, 283, 284, 285, 286, 287, 288, 289, 292, 294, 295, 297, 298, 299, 300, 302, 303, 305, 306, 307, 309, 310, 312, 313, 314, 316, 317, 319, 320, 321, 323, 324, 326, 327, 328, 330, 331, 333, 334, 335, 337, 338, 340, 341, 342, 344, 345, 347, 348, 349, 351, 352, 354, 355, 356, 359, 360, 361, 363, 364, 366, 367, 368, 371, 372, 373, 375, 376, 378, 379, 380, 382, 383, 385, 386, 387, 389, 390, 392, 393, 394, 396, 397, 399, 400, 401, 404, 405]
noncomputable abbrev prg : Program := RowW.prog (OpenRow.toRowW (OpenLaw.row PySem.Challenge.rw_pq0393_01))
/-- the state behind the boot -/
noncomputable abbrev booted (w : World) (os : OsState) : Shared := ⟨boot_heap w.params, Array.mk [], boot_drawn, boot_toks, os⟩
noncomputable abbrev looked (s : Shared) := openSeen view [Str.ofString "WORD", Str.ofString "MOST_WORDS"] (importedModules (Program.main prg).body) (fun s => xlAt view lits s && recOk (RowW.records (OpenRow.toRowW (OpenLaw.row PySem.Challenge.rw_pq0393_01))) s) true s
noncomputable abbrev lookGood := openGood view [Str.ofString "WORD", Str.ofString "MOST_WORDS"]
/-! the top behind the boot, on the tree -/
noncomputable def ev : List Obj → List Obj
  | [] => []
  | [a] => [a]
  | a :: _ :: r => a :: ev r
noncomputable def btOf : Nat → List Obj → BT
  | 0, _ => .nil
  | _, [] => .nil
  | n + 1, a :: r => .node a (btOf n (ev r)) (btOf n (ev r.tail))
noncomputable def topRunT (tb : String → Option Builtin) (p : Program) (w : World) (n₀ : Nat) (ann : Option Value) : Nat → SharedT → Thread → Option SharedT
  | 0, _, _ => none
  | n + 1, s, t => match through t with
    | true => some s
    | false => match stepOk n₀ ann t with
      | false => none
      | true => match stepT (denote tb) p w s t with
        | some (s', t') => topRunT tb p w n₀ ann n s' t'
        | none => none
theorem topRun_of {tb : String → Option Builtin} {p : Program} {w : World} {n₀ : Nat} {ann : Option Value} : ∀ {n : Nat} {s s' : SharedT} {t : Thread}, topRunT tb p w n₀ ann n s t = some s' → topRun tb p w n₀ ann n s.abs t = some s'.abs
  | 0, _, _, _, h => by cases h
  | n + 1, s, s', t, h => by
    unfold topRunT at h
    unfold topRun
    cases he : through t with
    | true => rw [he] at h; cases h; rfl
    | false =>
      rw [he] at h
      cases hk : stepOk n₀ ann t with
      | false => rw [hk] at h; cases h
      | true =>
        rw [hk] at h
        cases hs : stepT (denote tb) p w s t with
        | none => rw [hs] at h; cases h
        | some r => obtain ⟨s₂, t₂⟩ := r; rw [hs] at h; rw [stepT_spec hs]; exact topRun_of h
noncomputable abbrev bootedT (w : World) (os : OsState) : SharedT := ⟨btOf 12 (boot_heap w.params).objs.toList, (boot_heap w.params).objs.size, (boot_heap w.params).life, Array.mk [], boot_drawn, boot_toks, os⟩
theorem bootedT_abs (w : World) (os : OsState) : (bootedT w os).abs = booted w os := by kernel_rfl
noncomputable abbrev ran (w : World) (os : OsState) : Option SharedT := topRunT treeTable prg w (booted w os).heap.objs.size ((booted w os).heap.nsMap mainGlobals "__annotations__") 5480 (bootedT w os) (topStub prg)
theorem ran_a : ∀ (w : World) (os : OsState), (ran w os).map (fun s => (staticsOk (importedModules prg.main.body) (booted w os).heap s.abs.heap && namesBound prg s.abs.heap && gensDone s.abs && laidKept (booted w os).heap s.abs.heap, (looked s.abs).1, (looked s.abs).2.1, (looked s.abs).2.2.1, (looked s.abs).2.2.2, Hook.obs (kHook pre.heap_1 adrs (fun _ => by kernel_rfl)) s.abs)) = some (true, lookGood.1, lookGood.2.1, lookGood.2.2.1, lookGood.2.2.2, Hook.val (kHook pre.heap_1 adrs (fun _ => by kernel_rfl)) w) := by
  intro w os
  unfold ran
  rw [PySem.W.Fast.te14364793385576792824]
  kernel_rfl
theorem ran_top (w : World) (os : OsState) : (ran w os).map (fun s => staticsOk (importedModules prg.main.body) (booted w os).heap s.abs.heap && namesBound prg s.abs.heap && gensDone s.abs && laidKept (booted w os).heap s.abs.heap) = some true := by
  obtain ⟨s, h, e⟩ := Option.map_eq_some_iff.mp (ran_a w os)
  rw [h]
  exact congrArg some (congrArg (·.1) e)
theorem boot_ok (w : World) (os : OsState) : ((booted w os).heap.isNs mainGlobals && (booted w os).gens.size == 0) = true := by kernel_rfl
theorem top_ends (w : World) (os : OsState) : ∃ s, ran w os = some s ∧ topFrom treeTable prg w 5480 (booted w os) = some s.abs := by
  obtain ⟨s, h, e⟩ := Option.map_eq_some_iff.mp (ran_top w os)
  refine ⟨s, h, ?_⟩
  have r := topRun_of h
  rw [bootedT_abs] at r
  unfold topFrom
  rw [boot_ok, r]
  show (match staticsOk (importedModules prg.main.body) (booted w os).heap s.abs.heap && namesBound prg s.abs.heap && gensDone s.abs && laidKept (booted w os).heap s.abs.heap with
      | true => some s.abs
      | false => none) = some s.abs
  rw [e]
theorem b_open : opening prg = plainProg prg.main.scope.names := by kernel_rfl
theorem b_fence : ∀ s, fenceModules? prg s = some s := fun s => by kernel_rfl
theorem b_all (w : World) : (fencedOpening treeTable prg w 5480).map (fun s => (s.heap, s.gens, s.drawn, s.toks)) = some (boot_heap w.params, Array.mk [], boot_drawn, boot_toks) := boot_open b_open (by decide) b_fence w
theorem left_all : LeftO prg view [Str.ofString "WORD", Str.ofString "MOST_WORDS"] (fun s => xlAt view lits s && recOk (RowW.records (OpenRow.toRowW (OpenLaw.row PySem.Challenge.rw_pq0393_01))) s)
    (Hook.obs (kHook pre.heap_1 adrs (fun _ => by kernel_rfl))) (Hook.val (kHook pre.heap_1 adrs (fun _ => by kernel_rfl))) 5480 := by
  intro w
  obtain ⟨⟨hp, gn, dr, tk, os⟩, h0, hv⟩ := Option.map_eq_some_iff.mp (b_all w)
  simp only [Prod.mk.injEq] at hv
  obtain ⟨rfl, rfl, rfl, rfl⟩ := hv
  obtain ⟨s, r, e⟩ := top_ends w os
  have e : topFrom treeTable prg w 5480 ⟨boot_heap w.params, Array.mk [], boot_drawn, boot_toks, os⟩ = some s.abs := e
  have ea := ran_a w os
  rw [r] at ea
  have ea := Option.some.inj ea
  unfold openEnds
  rw [h0, Option.bind_some, e, Option.map_some]
  exact congrArg some (Prod.ext (Prod.ext (congrArg (·.2.1) ea) (Prod.ext (congrArg (·.2.2.1) ea) (Prod.ext (congrArg (·.2.2.2.1) ea) (congrArg (·.2.2.2.2.1) ea)))) (congrArg (·.2.2.2.2.2) ea))
local macro_rules | `(tactic| o_law) => `(tactic| refine holds_law (by decide +kernel) fun said => ?_)
local macro_rules | `(tactic| o_head $H:term) => `(tactic| (
  refine open_S (q := view) (loose := [Str.ofString "WORD", Str.ofString "MOST_WORDS"]) (Xt := fun s => xlAt view lits s && recOk (RowW.records (OpenRow.toRowW (OpenLaw.row PySem.Challenge.rw_pq0393_01))) s) (XP := XL view lits) (Yf := Hook.obs $H) (Ya := Hook.val $H) (YP := Hook.says $H) (N := 5480)
    ?hl (Hook.of $H) (Hook.keeps $H) (fun s e => xl_of s (Bool.and_eq_true_iff.mp e).1) XL.keeps (by rfl) (by rfl) (by rfl) (fun s e => recFacts_of (Bool.and_eq_true_iff.mp e).2) (by rfl) (by first | assumption | decide +kernel) (by decide +kernel) ⟨rfl, rfl, rfl, rfl, rfl, by decide +kernel⟩ ?hw ?hc;
  (case hl => exact left_all)))
set_option maxHeartbeats 8000000 in
open_top hd for PySem.Challenge.rw_pq0393_01
local macro_rules | `(tactic| walk_at $s:str) => `(tactic| k_extra $s)

noncomputable abbrev AA (dp un : Nat) (gd : Option (List Code)) (outer : List Env) : Around := { handled := none, depth := dp, frames := some outer, guards := gd, units := un }

noncomputable abbrev Led := List (Addr × Obj)

/-- what a body hands over at its end -/
noncomputable def LeaveC (g : Heap) (k : Value → Led → Shared → Prop) (v : Value) (s' : Shared) : Prop :=
  ∃ L' m' news', Fr g L' s'.heap m' ∧ News g L' s'.heap news' ∧ k v news' s'

/-- a contract of a def of the text's: with the objects T at hand, everything else kept, it hands back Ok or raises Er -/
noncomputable def CSpec (w : World) (d : Nat) (f : Addr) (args : List Value) (T : Led) (G : Heap → Prop) (Ok : Value → Led → Prop) (Er : Heap → Heap → List Env → Addr → Heap → Prop) : Prop :=
  ∀ (dp un : Nat) (gd : Option (List Code)) (outer : List Env) (base g : Heap) (mean : ExcName → Option Value) (mg mb : Str → Option Value) (s : Shared) (R : Result → Shared → Prop),
    Below (AA dp un gd outer) base outer g → g.StaysIn s.heap → g.objs.size = s.heap.objs.size →
    (∀ p ∈ T, s.heap.get? p.1 = some p.2 ∧ g.get? p.1 = none) → (Mine.hd.heap_1 w.params).In g → Top Mine.view (looseW Mine.view [Str.ofString "WORD", Str.ofString "MOST_WORDS"]) mean mg mb g → dp + d < 990 → un + 20 * d < 9800 → G g →
    (∀ v T' h' tk', Ok v T' → g.StaysIn h' → (∀ p ∈ T', h'.get? p.1 = some p.2 ∧ g.get? p.1 = none) → R (.ok (.ret v)) { s with heap := h', toks := tk' }) →
    (∀ e h' tk', Er base g outer e h' → g.UpToSlots h' → R (.error (.ref e)) { s with heap := h', toks := tk' }) →
    codeAny (model PySem.Challenge.rw_pq0393_01.row.prog w) (AA dp un gd outer) (.call (.ref f) ⟨args, []⟩) R s

theorem enterC {w : World} {A : Around} {outer : List Env} {base g : Heap} {s : Shared} {R : Result → Shared → Prop} {T : Led} {mean : ExcName → Option Value} {mg mb : Str → Option Value}
    {name qual : Str} {params : Arguments} {body : List Stmt} {scope : Scope} {dV kV doc pm cdv ct oc : Value} {an od : Option Addr} {osl : Array (Option Value)} {f : Addr} {args : Args} {binds : List (Str × Value)}
    (B : Below A base outer g) (hst : g.StaysIn s.heap) (hsz : g.objs.size = s.heap.objs.size) (N : ∀ p ∈ T, s.heap.get? p.1 = some p.2 ∧ g.get? p.1 = none) (X : (Mine.hd.heap_1 w.params).In g) (Tp : Top Mine.view (looseW Mine.view [Str.ofString "WORD", Str.ofString "MOST_WORDS"]) mean mg mb g)
    (ho : (Mine.hd.heap_1 w.params).lookup f = some ⟨oc, od, .func (fnOf name qual params body scope dV kV doc pm an cdv ct), osl⟩) (hcd : codeIn (Mine.hd.heap_1 w.params) cdv qual = true) (hroom : A.depth < recursionLimit)
    (hbind : BindsTo s (fnOf name qual params body scope dV kV doc pm an cdv ct) args binds) (hloc : ∀ y ∈ binds, scope.names.lookup y.1 = some .local)
    (h : ∀ L' h₁, Fr g L' h₁ (fun y => binds.reverse.lookup y) → News g L' h₁ T → (∀ p ∈ T, p.1 < L') →
      wpAny (model PySem.Challenge.rw_pq0393_01.row.prog w) (A.deeper (envOf qual scope L' f cdv)) (execs body (envOf qual scope L' f cdv))
        (fun fl s' => LeaveC g (fun v _ s' => R (.ok (.ret v)) s') (match fl with | .ret v => v | _ => .none) s')
        (fun e s' => wpAny (model PySem.Challenge.rw_pq0393_01.row.prog w) (A.deeper (envOf qual scope L' f cdv)) (leaving (envOf qual scope L' f cdv) e) (fun _ s'' => R (.error e) s'') (fun e' s'' => R (.error e') s'') s')
        { s with heap := h₁, toks := s.toks + binds.length })
    (hco : scope.isCoroutine = false) (hgen : scope.isGenerator = false) (hk : scope.kind = .function)
    (hcell : ∀ x ∈ scope.names, x.2 ≠ .cell) : codeAny (model PySem.Challenge.rw_pq0393_01.row.prog w) A (.call (.ref f) args) R s := by
  have Xs : (Mine.hd.heap_1 w.params).In s.heap := X.keeps hst
  refine codeAny_call_def (fd := fnX name qual params body scope [] dV kV doc pm an cdv ct) (body := body) (binds := binds) hroom (Xs _ _ ho) rfl (Tp.nolimit.keeps hst) (codeRec_of Xs hcd) rfl hbind hcell hloc (fun h₁ hns hk₁ => ?_) hco hgen hk
  exact wpAny_mono (h s.heap.objs.size h₁ ⟨hns, fun b o e => hk₁ b o (hst b o e), Nat.le_of_eq hsz⟩ (fun p hp => ⟨hk₁ _ _ (N p hp).1, Nat.ne_of_lt (Heap.lt_size (N p hp).1), (N p hp).2⟩) (fun p hp => Heap.lt_size (N p hp).1))
    (fun fl s' hl => by obtain ⟨_, _, _, _, _, r⟩ := hl; exact r) fun _ _ y => y

/-- the contract at a call in a frame of the walk's -/
theorem useC {w : World} {d : Nat} {f : Addr} {args : List Value} {T : Led} {G : Heap → Prop} {Ok : Value → Led → Prop} {Er : Heap → Heap → List Env → Addr → Heap → Prop}
    {dp un : Nat} {gd : Option (List Code)} {env : Env} {outer : List Env} {A₀ : Around} {base h₀ : Heap} {L : Addr} {m : Str → Option Value} {news rest : Led} {s : Shared} {mean : ExcName → Option Value} {mg mb : Str → Option Value} {Q E : Value → Shared → Prop}
    (S : CSpec w d f args T G Ok Er) (B : Below A₀ base outer h₀) (F : Fr h₀ L s.heap m) (N : News h₀ L s.heap news) (X : (Mine.hd.heap_1 w.params).In h₀) (Tp : Top Mine.view (looseW Mine.view [Str.ofString "WORD", Str.ofString "MOST_WORDS"]) mean mg mb h₀)
    (hf : env.frame = some L) (hke : env.scope.kind = .function) (hd : dp + d < 990) (hu : un + 20 * d < 9800)
    (hT : ∀ p ∈ T, p ∈ news) (hR : ∀ p ∈ rest, p ∈ news) (hD : ∀ p ∈ rest, ∀ q ∈ T, p.1 ≠ q.1)
    (hG : ∀ g, (∀ b o, s.heap.get? b = some o → (∀ q ∈ T, b ≠ q.1) → g.get? b = some o) → G g)
    (h : ∀ v T' h' tk', Ok v T' → Fr h₀ L h' m → News h₀ L h' (T' ++ rest) → (∀ p ∈ T', ∀ q ∈ rest, p.1 ≠ q.1) → (∀ p ∈ T', p.1 ≠ L) → Q v { s with heap := h', toks := tk' })
    (hE : ∀ g e h' tk', (∀ b o, s.heap.get? b = some o → (∀ q ∈ T, b ≠ q.1) → g.get? b = some o) → (∀ b o, g.get? b = some o → s.heap.get? b = some o) → (∀ p ∈ rest, g.get? p.1 = some p.2) → Er base g (env :: outer) e h' → g.UpToSlots h' → E (.ref e) { s with heap := h', toks := tk' }) :
    wpAny (model PySem.Challenge.rw_pq0393_01.row.prog w) (AA dp un gd (env :: outer)) (call (.ref f) args) Q E s := by
  have N₁ : News h₀ L s.heap T := fun p hp => N p (hT p hp)
  have nm : ∀ b o, h₀.get? b = some o → b ∉ T.map (·.1) := fun b o e q => by
    obtain ⟨p, hp, rfl⟩ := List.mem_map.mp q
    rw [(N₁ p hp).2.2] at e; cases e
  have hg : ∀ b o, s.heap.get? b = some o → (∀ q ∈ T, b ≠ q.1) → (hideAll s.heap (T.map (·.1))).get? b = some o := fun b o e hn => hideAll_get _ e fun q => by
    obtain ⟨p, hp, hq⟩ := List.mem_map.mp q
    exact hn p hp hq.symm
  obtain ⟨FG, BG, st, -⟩ := groundX (A := AA dp un gd (env :: outer)) (R := fun _ _ => True) B F N₁ rfl hf hke
  refine wpAny_call (S dp un gd (env :: outer) base _ mean mg mb s _ BG (fun b o e => of_hideAll _ e) (hideAll_size _ _) (fun p hp => ⟨(N₁ p hp).1, hideAll_none _ (List.mem_map_of_mem hp)⟩) (X.keeps st) (Tp.keeps st) hd hu (hG _ hg) ?_ ?_)
  · intro v T' h' tk' ok sh nt
    obtain ⟨oL, es, ep, hL, hLd, hLk, hLf⟩ := F.ns
    have nL : ∀ q ∈ T, L ≠ q.1 := fun q hq e => (N₁ q hq).2.1 e.symm
    have hLg := hg L oL hL nL
    refine h v T' h' tk' ok ⟨⟨oL, es, ep, sh L oL hLg, hLd, hLk, hLf⟩, fun b o e => sh b o (st b o e), F.above⟩ ?_ ?_ ?_
    · intro p hp
      rcases List.mem_append.mp hp with hp | hp
      · refine ⟨(nt p hp).1, fun q => ?_, ?_⟩
        · have := (nt p hp).2; rw [q, hLg] at this; cases this
        · cases q : h₀.get? p.1 with
          | none => rfl
          | some o => have := (nt p hp).2; rw [st _ _ q] at this; cases this
      · have z := N p (hR p hp)
        exact ⟨sh _ _ (hg _ _ z.1 fun q hq => hD p hp q hq), z.2⟩
    · intro p hp q hq e
      have := (nt p hp).2
      rw [e, hg _ _ (N q (hR q hq)).1 (fun r hr => hD q hq r hr)] at this; cases this
    · intro p hp e
      have := (nt p hp).2
      rw [e, hLg] at this; cases this
  · intro e h' tk' er up
    exact hE _ e h' tk' hg (fun b o e => of_hideAll _ e) (fun p hp => hg _ _ (N p (hR p hp)).1 fun q hq => hD p hp q hq) er up

/-- the names that the call binds, said ahead -/
noncomputable def Binds (_ : List (Str × Value)) : Prop := True
theorem Binds.mk {l : List (Str × Value)} : Binds l := trivial

theorem enterB {w : World} {A : Around} {outer : List Env} {base g : Heap} {s : Shared} {R : Result → Shared → Prop} {T : Led} {mean : ExcName → Option Value} {mg mb : Str → Option Value}
    {name qual : Str} {params : Arguments} {body : List Stmt} {scope : Scope} {dV kV doc pm cdv ct oc : Value} {an od : Option Addr} {osl : Array (Option Value)} {f : Addr} {args : Args} {binds : List (Str × Value)}
    (_hb : Binds binds)
    (B : Below A base outer g) (hst : g.StaysIn s.heap) (hsz : g.objs.size = s.heap.objs.size) (N : ∀ p ∈ T, s.heap.get? p.1 = some p.2 ∧ g.get? p.1 = none) (X : (Mine.hd.heap_1 w.params).In g) (Tp : Top Mine.view (looseW Mine.view [Str.ofString "WORD", Str.ofString "MOST_WORDS"]) mean mg mb g)
    (ho : (Mine.hd.heap_1 w.params).lookup f = some ⟨oc, od, .func (fnOf name qual params body scope dV kV doc pm an cdv ct), osl⟩) (hcd : codeIn (Mine.hd.heap_1 w.params) cdv qual = true) (hroom : A.depth < recursionLimit)
    (hbind : BindsTo s (fnOf name qual params body scope dV kV doc pm an cdv ct) args binds) (hloc : ∀ y ∈ binds, scope.names.lookup y.1 = some .local)
    (h : ∀ L' h₁, Fr g L' h₁ (fun y => binds.reverse.lookup y) → News g L' h₁ T → (∀ p ∈ T, p.1 < L') →
      wpAny (model PySem.Challenge.rw_pq0393_01.row.prog w) (A.deeper (envOf qual scope L' f cdv)) (execs body (envOf qual scope L' f cdv))
        (fun fl s' => LeaveC g (fun v _ s' => R (.ok (.ret v)) s') (match fl with | .ret v => v | _ => .none) s')
        (fun e s' => wpAny (model PySem.Challenge.rw_pq0393_01.row.prog w) (A.deeper (envOf qual scope L' f cdv)) (leaving (envOf qual scope L' f cdv) e) (fun _ s'' => R (.error e) s'') (fun e' s'' => R (.error e') s'') s')
        { s with heap := h₁, toks := s.toks + binds.length })
    (hco : scope.isCoroutine = false) (hgen : scope.isGenerator = false) (hk : scope.kind = .function)
    (hcell : ∀ x ∈ scope.names, x.2 ≠ .cell) : codeAny (model PySem.Challenge.rw_pq0393_01.row.prog w) A (.call (.ref f) args) R s :=
  enterC B hst hsz N X Tp ho hcd hroom hbind hloc h hco hgen hk hcell

theorem endC {g h' : Heap} {s : Shared} {R : Result → Shared → Prop} {Ok : Value → Led → Prop} {v : Value} {news' : Led} {L' : Addr} {m' : Str → Option Value} {tk' : Nat}
    (hok : ∀ v T' h' tk', Ok v T' → g.StaysIn h' → (∀ p ∈ T', h'.get? p.1 = some p.2 ∧ g.get? p.1 = none) → R (.ok (.ret v)) { s with heap := h', toks := tk' })
    (F : Fr g L' h' m') (N : News g L' h' news') (hO : ∃ T', Ok v T' ∧ ∀ p ∈ T', p ∈ news') : LeaveC g (fun v _ s' => R (.ok (.ret v)) s') v { s with heap := h', toks := tk' } := by
  obtain ⟨T', o, i⟩ := hO
  exact ⟨_, _, _, F, N, hok _ _ _ _ o F.keep fun p hp => ⟨(N p (i p hp)).1, (N p (i p hp)).2.2⟩⟩

/-- one entry taken out of a ledger; several -/
inductive Take1 (a : Addr) (o : Obj) : Led → Led → Prop
  | head {r : Led} : (∀ p ∈ r, p.1 ≠ a) → Take1 a o ((a, o) :: r) r
  | tail {p : Addr × Obj} {r r' : Led} : p.1 ≠ a → Take1 a o r r' → Take1 a o (p :: r) (p :: r')
inductive Take : Led → Led → Led → Prop
  | nil {r : Led} : Take [] r r
  | cons {a : Addr} {o : Obj} {T r r' r'' : Led} : Take1 a o r r' → Take T r' r'' → Take ((a, o) :: T) r r''
theorem Take1.spec {a : Addr} {o : Obj} : ∀ {r r' : Led}, Take1 a o r r' → (a, o) ∈ r ∧ (∀ p ∈ r', p ∈ r ∧ p.1 ≠ a)
  | _, _, .head h => ⟨.head _, fun p hp => ⟨.tail _ hp, h p hp⟩⟩
  | _, _, .tail hp r => ⟨.tail _ r.spec.1, fun q hq => by
      rcases List.mem_cons.mp hq with rfl | hq
      · exact ⟨.head _, hp⟩
      · exact ⟨.tail _ (r.spec.2 q hq).1, (r.spec.2 q hq).2⟩⟩
theorem Take.spec : ∀ {T r r' : Led}, Take T r r' → (∀ p ∈ T, p ∈ r) ∧ (∀ p ∈ r', p ∈ r ∧ ∀ q ∈ T, p.1 ≠ q.1)
  | _, _, _, .nil => ⟨fun _ hp => (nomatch hp), fun p hp => ⟨hp, fun _ hq => (nomatch hq)⟩⟩
  | _, _, _, .cons (a := a) (o := o) t1 t2 => by
    refine ⟨fun p hp => ?_, fun p hp => ⟨(t1.spec.2 p (t2.spec.2 p hp).1).1, fun q hq => ?_⟩⟩
    · rcases List.mem_cons.mp hp with rfl | hp
      · exact t1.spec.1
      · exact (t1.spec.2 p (t2.spec.1 p hp)).1
    · rcases List.mem_cons.mp hq with rfl | hq
      · exact (t1.spec.2 p (t2.spec.2 p hp).1).2
      · exact (t2.spec.2 p hp).2 q hq

/-- the contract at a call, the ledger's rest found by taking -/
theorem useT {w : World} {d : Nat} {f : Addr} {args : List Value} {T : Led} {G : Heap → Prop} {Ok : Value → Led → Prop} {Er : Heap → Heap → List Env → Addr → Heap → Prop}
    {dp un : Nat} {gd : Option (List Code)} {env : Env} {outer : List Env} {A₀ : Around} {base h₀ : Heap} {L : Addr} {m : Str → Option Value} {news rest : Led} {s : Shared} {mean : ExcName → Option Value} {mg mb : Str → Option Value} {Q E : Value → Shared → Prop}
    (S : CSpec w d f args T G Ok Er) (tk : Take T news rest) (B : Below A₀ base outer h₀) (F : Fr h₀ L s.heap m) (N : News h₀ L s.heap news) (X : (Mine.hd.heap_1 w.params).In h₀) (Tp : Top Mine.view (looseW Mine.view [Str.ofString "WORD", Str.ofString "MOST_WORDS"]) mean mg mb h₀)
    (hf : env.frame = some L) (hke : env.scope.kind = .function) (hd : dp + d < 990) (hu : un + 20 * d < 9800)
    (hG : ∀ g, (∀ b o, s.heap.get? b = some o → (∀ q ∈ T, b ≠ q.1) → g.get? b = some o) → G g)
    (h : ∀ v T' h' tk', Ok v T' → Fr h₀ L h' m → News h₀ L h' (T' ++ rest) → (∀ p ∈ T', ∀ q ∈ rest, p.1 ≠ q.1) → (∀ p ∈ T', p.1 ≠ L) → Q v { s with heap := h', toks := tk' })
    (hE : ∀ g e h' tk', (∀ b o, s.heap.get? b = some o → (∀ q ∈ T, b ≠ q.1) → g.get? b = some o) → (∀ b o, g.get? b = some o → s.heap.get? b = some o) → (∀ p ∈ rest, g.get? p.1 = some p.2) → Er base g (env :: outer) e h' → g.UpToSlots h' → E (.ref e) { s with heap := h', toks := tk' }) :
    wpAny (model PySem.Challenge.rw_pq0393_01.row.prog w) (AA dp un gd (env :: outer)) (call (.ref f) args) Q E s :=
  useC S B F N X Tp hf hke hd hu tk.spec.1 (fun p hp => (tk.spec.2 p hp).1) (fun p hp => (tk.spec.2 p hp).2) hG h hE

/-- a contract that takes nothing and hands back an int -/
theorem useP {w : World} {d : Nat} {f : Addr} {args : List Value} {r : Int}
    {dp un : Nat} {gd : Option (List Code)} {env : Env} {outer : List Env} {A₀ : Around} {base h₀ : Heap} {L : Addr} {m : Str → Option Value} {news : Led} {s : Shared} {mean : ExcName → Option Value} {mg mb : Str → Option Value} {Q E : Value → Shared → Prop}
    (S : CSpec w d f args [] (fun _ => True) (fun v T' => ∃ t, v = Value.int r t ∧ T' = []) (fun _ _ _ _ _ => False)) (B : Below A₀ base outer h₀) (F : Fr h₀ L s.heap m) (N : News h₀ L s.heap news) (X : (Mine.hd.heap_1 w.params).In h₀) (Tp : Top Mine.view (looseW Mine.view [Str.ofString "WORD", Str.ofString "MOST_WORDS"]) mean mg mb h₀)
    (hf : env.frame = some L) (hke : env.scope.kind = .function) (hd : dp + d < 990) (hu : un + 20 * d < 9800)
    (h : ∀ h' tk', Fr h₀ L h' m → ∀ t', News h₀ L h' news → Q (.int r t') { s with heap := h', toks := tk' }) :
    wpAny (model PySem.Challenge.rw_pq0393_01.row.prog w) (AA dp un gd (env :: outer)) (call (.ref f) args) Q E s :=
  useT S Take.nil B F N X Tp hf hke hd hu (fun _ _ => trivial) (fun v T' h' tk' ok F' N' _ _ => by obtain ⟨t, rfl, rfl⟩ := ok; exact h h' tk' F' t N') (fun _ _ _ _ _ _ _ er _ => er.elim)

theorem room0 {d a c c' : Nat} (h : d + a < c) (e : c ≤ a + c') : d < c' := by omega
theorem room1 {d a c x c' : Nat} (h : d + a < c) (e : x + c ≤ a + c') : d + x < c' := by omega
theorem room2 {d a c x y c' : Nat} (h : d + a < c) (e : x + y + c ≤ a + c') : d + x + y < c' := by omega
theorem room3 {d a c x y z c' : Nat} (h : d + a < c) (e : x + y + z + c ≤ a + c') : d + x + y + z < c' := by omega
local macro_rules | `(tactic| k_ne) => `(tactic| (refine neN ?_; (try dsimp only); walk_at "mine ne"))
local macro_rules | `(tactic| k_room) => `(tactic| walk_at "mine room")
local macro_rules | `(tactic| ktr_room) => `(tactic| walk_at "mine room")
local macro_rules | `(tactic| k_units) => `(tactic| walk_at "mine units")
theorem words_00 : True := by
  k_with "mine enter" => (k_dflt (refine' enterB ?w1k0 ?w1k1 ?w1k2 ?w1k3 ?w1k4 ?w1k5 ?w1k6 ?w1k7 ?w1k8 ?w1k9 ?w1kb ?w1kl ?_ ?w1c1 ?w1c2 ?w1c3 ?w1c4; (case w1k0 => assumption); (case w1k1 => assumption); (case w1k2 => assumption); (case w1k3 => assumption); (case w1k4 => assumption); (case w1k5 => assumption); (case w1k6 => assumption); (case w1k7 => k_is); (case w1k8 => k_is); (case w1k9 => ktr_room); (case w1kb => exact BindsTo.of_eq rfl); (case w1kl => exact locs rfl); (case w1c1 => exact rfl); (case w1c2 => exact rfl); (case w1c3 => exact rfl); (case w1c4 => decide); k_whole; intro zqL' zqh' zqF' zqN' zql1; (try k_lt zql1); (try dsimp only); (try show wpAny _ _ _ _ _ _); (revert zqL' zqh' zqF' zqN' zql1); intros; (try k_fold)))
  k_with "mine end" => ((try dsimp only); (try k_unfold); (try dsimp only); refine' endC (by assumption) (by assumption) (by assumption) ?_)
  k_with "mine mem" => (repeat' (first | exact List.forall_mem_nil _ | (refine List.forall_mem_cons.mpr ⟨by k_mem, ?_⟩)))
  k_with "mine sum" => first | (refine room2 (by with_reducible assumption) ?_; exact Nat.le_of_ble_eq_true rfl) | (refine room1 (by with_reducible assumption) ?_; exact Nat.le_of_ble_eq_true rfl) | (refine room0 (by with_reducible assumption) ?_; exact Nat.le_of_ble_eq_true rfl) | (refine room3 (by with_reducible assumption) ?_; exact Nat.le_of_ble_eq_true rfl) | omega
  k_with "mine num" => ((try dsimp only [AA, Around.deeper, Around.in1]); walk_at "mine sum")
  k_with "mine lt" => with_reducible first | assumption | exact And.left (by assumption) | exact And.left (And.right (by assumption)) | exact And.right (by assumption) | exact And.left (And.right (And.right (by assumption))) | exact And.right (And.right (by assumption)) | exact And.left (And.right (And.right (And.right (by assumption)))) | exact And.right (And.right (And.right (by assumption))) | exact And.left (And.right (And.right (And.right (And.right (by assumption))))) | exact And.right (And.right (And.right (And.right (by assumption)))) | exact And.left (And.right (And.right (And.right (And.right (And.right (by assumption)))))) | exact And.right (And.right (And.right (And.right (And.right (by assumption))))) | exact And.left (And.right (And.right (And.right (And.right (And.right (And.right (by assumption))))))) | exact And.right (And.right (And.right (And.right (And.right (And.right (by assumption)))))) | exact And.right (And.right (And.right (And.right (And.right (And.right (And.right (by assumption)))))))
  k_with "mine ne" => first | (with_reducible assumption) | (refine Ne.symm ?_; with_reducible assumption) | (refine Nat.ne_of_lt ?_; walk_at "mine lt") | (refine Nat.ne_of_gt ?_; walk_at "mine lt") | walk_at "mine lt" | (refine Ne.symm ?_; walk_at "mine lt") | (refine Nat.ne_of_lt (Nat.lt_succ_of_lt ?_); walk_at "mine lt") | (refine Nat.ne_of_gt (Nat.lt_succ_of_lt ?_); walk_at "mine lt") | omega
  k_with "mine take1" => first | (refine' Take1.head ?w8a; (case w8a => k_all)) | (refine' Take1.tail ?w8a ?w8b; (case w8a => k_ne); (case w8b => walk_at "mine take1"))
  k_with "mine take" => first | exact Take.nil | (refine' Take.cons ?w9a ?w9b; (case w9a => walk_at "mine take1"); (case w9b => walk_at "mine take"))
  k_with "mine room" => ((try simp only [depth_mark, depth_under_make, depth_under_kw, depth_in1, depth_deeper, depth_caller]); (try dsimp only [AA, Around.deeper, Around.in1, recursionLimit]); walk_at "mine sum")
  k_with "mine units" => ((try simp only [units_in1, units_deeper, Around.mark_units, units_caller]); (try dsimp only [AA, Around.deeper, Around.in1, cLine]); walk_at "mine sum")
  k_with "mine steps" => (repeat' ((fail_if_success (walk_at "mine stop")); first | (k_unfold; (try dsimp only)) | (k_end; wrow_close) | walk1 | (dsimp only; walk1) | (leave1; walk_say "STEP leave1"; try dsimp only) | fail "no step"))
  trivial
noncomputable def CellsO (o : Obj) : Prop := ∃ vs ns n, o = ({ cls := .type "list", data := .seq (List.toArray vs) n } : Obj) ∧ IntsAre vs ns ∧ ns.length ≤ 63
noncomputable def WellO (aC : Addr) (o : Obj) : Prop := ∃ (at_ st : Int) (t1 t2 : Tok) (n : Nat), 0 ≤ at_ ∧ o = ({ cls := .type "list", data := .seq #[.ref aC, .int at_ t1, .int st t2] n } : Obj)

set_option maxHeartbeats 4000000 in
theorem draw_spec (w : World) (aW aC : Addr) (oW oC : Obj) (size : Int) (t1 : Tok) (hW : WellO aC oW) (hC : CellsO oC) (hne : @Ne Nat aW aC) (h0 : 0 < size) (h1 : size < 2 ^ 40) :
    CSpec w 10 313 [.ref aW, .int size t1] [(aW, oW), (aC, oC)] (fun _ => True) (fun v T' => ∃ r t oW', v = .int r t ∧ 0 ≤ r ∧ r < size ∧ WellO aC oW' ∧ T' = [(aW, oW'), (aC, oC)]) (fun _ _ _ _ _ => False) := by
  unfold CSpec
  k_fill
  intro dp un gd outer base g mean mg mb s R B hst hsz hN X Tp hd hu hG hok her
  obtain ⟨at_, st, ta, tst, n, ha0, rfl⟩ := hW
  obtain ⟨vs, ns, nn, rfl, hi, hl⟩ := hC
  have hb : Binds [(Str.ofString "well", .ref aW), (Str.ofString "size", .int size t1)] := .mk
  walk_at "mine enter"
  k_steps
  all_goals walk_at "mine end"
  all_goals exact ⟨[(aW, _), (aC, _)], ⟨_, _, _, rfl, Int.fmod_nonneg_of_pos _ h0, Int.fmod_lt_of_pos _ h0, ⟨at_ + 1, _, _, _, _, by omega, rfl⟩, rfl⟩, by walk_at "mine mem"⟩
theorem ints_mem : ∀ {vs : List Value} {ns : List Int}, IntsAre vs ns → ∀ {v : Value}, v ∈ vs → ∃ p t, v = .int p t ∧ p ∈ ns
  | _, _, .cons i t _, _, .head _ => ⟨i, t, rfl, .head _⟩
  | _, _, .cons _ _ h, _, .tail _ m => let ⟨p, t, e, q⟩ := ints_mem h m; ⟨p, t, e, .tail _ q⟩
theorem item_tup_open {prog : Program} {w : World} {A : Around} {E : Value → Shared → Prop} {s : Shared} {value slice : PySem.Expr} {t : Addr} {l : List Value} {k : Int} {u : Tok} {Q : Value → Shared → Prop} (ht : IsTup s.heap t l.toArray)
    (h0 : 0 ≤ k) (h1 : k < (l.toArray.size : Int)) (hf : l.length < 2 ^ 62) (h : ∀ x, x ∈ l → Q x s)
    (hs : subscripted slice false (.ref t) (.int k u) = operate [.ref t, .int k u] (getItem (.ref t) (.int k u))) :
    wpAny (model prog w) A (subscriptTail value slice (.ref t) (.int k u)) Q E s := by
  rw [List.size_toArray] at h1
  have hk : k.toNat < l.length := by omega
  have hj : seqIndex? k l.length = some k.toNat := by
    obtain ⟨j, rfl⟩ := Int.eq_ofNat_of_zero_le h0
    simp only [Int.toNat_natCast] at hk ⊢
    have e1 : ¬ ((j : Int) < 0) := by omega
    have e2 : (decide ((0 : Int) ≤ (j : Int)) && decide ((j : Int) < (l.length : Int))) = true := by
      simp only [Bool.and_eq_true, decide_eq_true_eq]; omega
    simp only [seqIndex?, if_neg e1]
    rw [if_pos e2]
    simp
  exact item_tupleT ht (by omega) (by omega) hj (List.getElem?_eq_getElem hk) (h _ (List.getElem_mem hk)) hs

theorem useDraw {w : World} {aW aC : Addr} {oW oC : Obj} {size : Int} {t1 : Tok}
    {dp un : Nat} {gd : Option (List Code)} {env : Env} {outer : List Env} {A₀ : Around} {base h₀ : Heap} {L : Addr} {m : Str → Option Value} {news rest : Led} {s : Shared} {mean : ExcName → Option Value} {mg mb : Str → Option Value} {Q E : Value → Shared → Prop}
    (hW : WellO aC oW) (hC : CellsO oC) (hne : @Ne Nat aW aC) (h0 : 0 < size) (h1 : size < 2 ^ 40) (tk : Take [(aW, oW), (aC, oC)] news rest)
    (B : Below A₀ base outer h₀) (F : Fr h₀ L s.heap m) (N : News h₀ L s.heap news) (X : (Mine.hd.heap_1 w.params).In h₀) (Tp : Top Mine.view (looseW Mine.view [Str.ofString "WORD", Str.ofString "MOST_WORDS"]) mean mg mb h₀)
    (hf : env.frame = some L) (hke : env.scope.kind = .function) (hd : dp + 10 < 990) (hu : un + 20 * 10 < 9800)
    (h : ∀ h' tk', Fr h₀ L h' m → ∀ r t oW', 0 ≤ r → r < size → WellO aC oW' → News h₀ L h' ((aW, oW') :: (aC, oC) :: rest) → Q (.int r t) { s with heap := h', toks := tk' }) :
    wpAny (model PySem.Challenge.rw_pq0393_01.row.prog w) (AA dp un gd (env :: outer)) (call (.ref 313) [.ref aW, .int size t1]) Q E s :=
  useT (draw_spec w aW aC oW oC size t1 hW hC hne h0 h1) tk B F N X Tp hf hke hd hu (fun _ _ => trivial) (fun v T' h' tk' ok F' N' _ _ => by
    obtain ⟨r, t, oW', rfl, a, b, c, rfl⟩ := ok; exact h h' tk' F' r t oW' a b c N') (fun _ _ _ _ _ _ _ er _ => er.elim)
theorem words_02 : True := by
  k_with "mine arith" => first | decide | omega | (simp only [List.size_toArray] at *; omega)
  k_with "mine std" => ( (case kB => assumption); (case kX => assumption); (case kT => assumption); (case khf => exact rfl); (case khk => exact rfl); (case kd => walk_at "mine num"); (case ku => walk_at "mine num"))
  k_with "call ref" => ( k_here; (with_reducible show wpAny _ _ (PySem.call (Value.ref 313) _ _) _ _ _); k_dflt ( refine' useDraw ?w15s1 ?w15s2 ?w15s3 ?w15s4 ?w15s5 (Take.cons ?w15ta ?w15tb) ?kB ?kF ?kN ?kX ?kT ?khf ?khk ?kd ?ku ?_; (case kF => k_asm); (case kN => k_asm); (case w15ta => walk_at "mine take1"); (case w15s1 => assumption); (case w15tb => walk_at "mine take"); (case w15s2 => assumption); (case w15s3 => k_ne); (case w15s4 => walk_at "mine arith"); (case w15s5 => walk_at "mine arith"); walk_at "mine std"; k_whole); intro _ _ _ _ _ _ _ _ _ _; (try dsimp only); (try k_sweep); (try k_fold))
  k_with "call builtin:len" => (k_here; (with_reducible show wpAny _ _ (PySem.call (Value.builtin "len") [Value.ref _]) _ _ _); (refine len_tuple (Fr.tup (by assumption) (by with_reducible assumption)) (by simp only [List.size_toArray]; omega) ?_))
  k_with "subscriptTail" => (k_here; (with_reducible show wpAny _ _ (subscriptTail _ _ (Value.ref _) (Value.int _ _)) _ _ _); k_dflt (refine' item_tup_open (Fr.tup (by assumption) (by with_reducible assumption)) ?w17h0 ?w17h1 ?w17hf ?_ ?w17hs; (case w17h0 => assumption); (case w17h1 => first | assumption | (simp only [List.size_toArray] at *; omega)); (case w17hf => omega); (case w17hs => with_unfolding_all rfl); k_whole); intro zqvI zqhI; (revert zqvI zqhI); intros)
  trivial
set_option maxHeartbeats 4000000 in
theorem one_spec (w : World) (aW aC aM : Addr) (oW oC : Obj) (items : List Value) (hW : WellO aC oW) (hC : CellsO oC) (hne : @Ne Nat aW aC) (ns : List Int) (hi : IntsAre items ns) (h0 : 0 < ns.length) (h1 : ns.length < 1000) :
    CSpec w 20 320 [.ref aW, .ref aM] [(aW, oW), (aC, oC)] (fun g => IsTup g aM items.toArray) (fun v T' => ∃ p t oW', v = .int p t ∧ p ∈ ns ∧ WellO aC oW' ∧ T' = [(aW, oW'), (aC, oC)]) (fun _ _ _ _ _ => False) := by
  unfold CSpec
  k_fill
  intro dp un gd outer base g mean mg mb s R B hst hsz hN X Tp hd hu hG hok her
  have hl := hi.length
  have hb : Binds [(Str.ofString "well", .ref aW), (Str.ofString "menu", .ref aM)] := .mk
  walk_at "mine enter"
  k_steps
  all_goals walk_at "mine end"
  all_goals (obtain ⟨p, t, e, hp⟩ := ints_mem hi (by assumption); subst e; exact ⟨[(aW, _), (aC, _)], ⟨_, _, _, rfl, hp, by assumption, rfl⟩, by walk_at "mine mem"⟩)
theorem tup_led {h₀ h : Heap} {L aM : Addr} {news T : Led} {l : List Value} {n : Nat} (N : News h₀ L h news) (hm : (aM, ({ cls := .type "tuple", data := .seq l.toArray n } : Obj)) ∈ news) (hT : ∀ q ∈ T, q.1 ≠ aM) :
    ∀ g : Heap, (∀ b o, h.get? b = some o → (∀ q ∈ T, b ≠ q.1) → g.get? b = some o) → IsTup g aM l.toArray := fun _ hk => ⟨_, hk _ _ (N _ hm).1 (fun q hq e => hT q hq e.symm), rfl, n, rfl⟩
theorem tup_top {w : World} {h₀ h : Heap} {L aM : Addr} {m : Str → Option Value} {news T rest : Led} {l : List Value} {n : Nat} {dd : Option Addr} {sl : Array (Option Value)} (F : Fr h₀ L h m) (X : (Mine.hd.heap_1 w.params).In h₀) (N : News h₀ L h news) (tk : Take T news rest) (hm : (Mine.hd.heap_1 w.params).lookup aM = some ⟨.type "tuple", dd, .seq l.toArray n, sl⟩) :
    ∀ g : Heap, (∀ b o, h.get? b = some o → (∀ q ∈ T, b ≠ q.1) → g.get? b = some o) → IsTup g aM l.toArray := fun _ hk => ⟨_, hk _ _ ((X.keeps F.keep) _ _ hm) (fun q hq e => by
      have h1 := (N q (tk.spec.1 q hq)).2.2
      have h2 := X _ _ hm
      rw [← e, h2] at h1; cases h1), rfl, n, rfl⟩
theorem useOne {w : World} {aW aC aM : Addr} {oW oC : Obj} {items : List Value} {ns : List Int}
    {dp un : Nat} {gd : Option (List Code)} {env : Env} {outer : List Env} {A₀ : Around} {base h₀ : Heap} {L : Addr} {m : Str → Option Value} {news rest : Led} {s : Shared} {mean : ExcName → Option Value} {mg mb : Str → Option Value} {Q E : Value → Shared → Prop}
    (hW : WellO aC oW) (hC : CellsO oC) (hne : @Ne Nat aW aC) (hi : IntsAre items ns) (h0 : 0 < ns.length) (h1 : ns.length < 1000) (tk : Take [(aW, oW), (aC, oC)] news rest)
    (B : Below A₀ base outer h₀) (F : Fr h₀ L s.heap m) (N : News h₀ L s.heap news) (X : (Mine.hd.heap_1 w.params).In h₀) (Tp : Top Mine.view (looseW Mine.view [Str.ofString "WORD", Str.ofString "MOST_WORDS"]) mean mg mb h₀)
    (hf : env.frame = some L) (hke : env.scope.kind = .function) (hd : dp + 20 < 990) (hu : un + 20 * 20 < 9800)
    (hG : ∀ g : Heap, (∀ b o, s.heap.get? b = some o → (∀ q ∈ [(aW, oW), (aC, oC)], b ≠ q.1) → g.get? b = some o) → IsTup g aM items.toArray)
    (h : ∀ h' tk', Fr h₀ L h' m → ∀ r t oW', r ∈ ns → WellO aC oW' → News h₀ L h' ((aW, oW') :: (aC, oC) :: rest) → Q (.int r t) { s with heap := h', toks := tk' }) :
    wpAny (model PySem.Challenge.rw_pq0393_01.row.prog w) (AA dp un gd (env :: outer)) (call (.ref 320) [.ref aW, .ref aM]) Q E s :=
  useT (one_spec w aW aC aM oW oC items hW hC hne ns hi h0 h1) tk B F N X Tp hf hke hd hu hG (fun v T' h' tk' ok F' N' _ _ => by
    obtain ⟨r, t, oW', rfl, a, c, rfl⟩ := ok; exact h h' tk' F' r t oW' a c N') (fun _ _ _ _ _ _ _ er _ => er.elim)
theorem words_03 : True := by
  k_with "mine ints" => first | exact IntsAre.nil | (refine' IntsAre.cons _ _ ?w18a; (case w18a => walk_at "mine ints"))
  k_with "mine ne all" => first | exact List.forall_mem_nil _ | (refine' List.forall_mem_cons.mpr ⟨?w19a, ?w19b⟩; (case w19a => k_ne); (case w19b => walk_at "mine ne all"))
  k_with "call ref" => ( k_here; (with_reducible show wpAny _ _ (PySem.call (Value.ref 320) _ _) _ _ _); k_dflt ( refine' useOne ?w20s1 ?w20s2 ?w20s3 ?w20si ?w20s4 ?w20s5 (Take.cons ?w20ta ?w20tb) ?kB ?kF ?kN ?kX ?kT ?khf ?khk ?kd ?ku ?kG ?_; (case kF => k_asm); (case kN => k_asm); (case w20ta => walk_at "mine take1"); (case w20s1 => assumption); (case w20tb => walk_at "mine take"); (case w20s2 => assumption); (case w20s3 => k_ne); (case kX => assumption); (case kG => first | (refine' tup_led ?w20g1 ?w20g2 ?w20g3; (case w20g1 => k_asm); (case w20g2 => k_mem); (case w20g3 => walk_at "mine ne all")) | (refine' tup_top ?w20g1 ?w20g2 ?w20g3 ?w20g4 ?w20g5; (case w20g1 => k_asm); (case w20g2 => assumption); (case w20g3 => k_asm); (case w20g4 => walk_at "mine take"); (case w20g5 => k_is))); (case w20si => walk_at "mine ints"); (case w20s4 => decide); (case w20s5 => decide); (case kB => assumption); (case kT => assumption); (case khf => exact rfl); (case khk => exact rfl); (case kd => walk_at "mine num"); (case ku => walk_at "mine num"); k_whole); intro _ _ _ _ _ _ _ _ _; (try dsimp only); (try k_sweep); (try k_fold))
  k_with "binaryOp Pow int int" => (k_here; (refine pow_int_small (by first | decide | assumption | omega) (by first | decide | assumption | omega) (by decide) ?_))
  trivial
/-- what a drawn span may be -/
noncomputable def SpanOk (place size : Int) : Prop := 0 ≤ place ∧ 0 ≤ size ∧ size ≤ 70 ∧ (place ≤ 300 ∨ 4194304 ≤ place) ∧ place < 2 ^ 256
theorem span_a {p : Int} (h : p ∈ [4194304, 4194305, (2 : Int) ^ Int.toNat 32, 2 ^ Int.toNat 255, 2 ^ Int.toNat 256 - 1, 0, 31, 300]) : SpanOk p 0 := by
  simp only [List.mem_cons, List.not_mem_nil, or_false] at h
  rcases h with rfl | rfl | rfl | rfl | rfl | rfl | rfl | rfl <;> (unfold SpanOk; decide +kernel)
theorem span_b {p q : Int} (h : p ∈ [4194304, 4194305, (2 : Int) ^ Int.toNat 32, 2 ^ Int.toNat 255, 2 ^ Int.toNat 256 - 1]) (h2 : q ∈ [(1 : Int), 32, 70]) : SpanOk p q := by
  have h3 : 4194304 ≤ p ∧ p < 2 ^ 256 := by
    simp only [List.mem_cons, List.not_mem_nil, or_false] at h
    rcases h with rfl | rfl | rfl | rfl | rfl <;> decide +kernel
  simp only [List.mem_cons, List.not_mem_nil, or_false] at h2
  exact ⟨by omega, by omega, by omega, .inr h3.1, h3.2⟩
theorem span_c {p r q : Int} (h : p ∈ [(0 : Int), 1, 31, 32, 33, 63, 64, 95, 100, 200, 255, 290]) (h0 : 0 ≤ r) (h1 : r < 3) (h2 : q ∈ [(32 : Int), 1, 31, 33, 2, 70, 0]) : SpanOk (p + r) q := by
  have hp : ∀ p ∈ [(0 : Int), 1, 31, 32, 33, 63, 64, 95, 100, 200, 255, 290], 0 ≤ p ∧ p ≤ 290 := by decide
  have hq : ∀ q ∈ [(32 : Int), 1, 31, 33, 2, 70, 0], 0 ≤ q ∧ q ≤ 70 := by decide
  have hp := hp p h
  have hq := hq q h2
  have u : p + r ≤ 290 + 10 := Int.add_le_add hp.2 (Int.le_of_lt (Int.lt_trans h1 (by decide)))
  exact ⟨Int.add_nonneg hp.1 h0, hq.1, hq.2, .inl u, Int.lt_of_le_of_lt u (by decide +kernel)⟩
set_option maxHeartbeats 4000000 in
theorem span_spec (w : World) (aW aC : Addr) (oW oC : Obj) (hW : WellO aC oW) (hC : CellsO oC) (hne : @Ne Nat aW aC) :
    CSpec w 30 367 [.ref aW] [(aW, oW), (aC, oC)] (fun _ => True) (fun v T' => ∃ x place size t1 t2 oW', v = .ref x ∧ SpanOk place size ∧ WellO aC oW' ∧ @Ne Nat aW x ∧ @Ne Nat aC x ∧ T' = [(aW, oW'), (aC, oC), (x, { cls := .type "tuple", data := .seq #[.int place t1, .int size t2] })]) (fun _ _ _ _ _ => False) := by
  unfold CSpec
  k_fill
  intro dp un gd outer base g mean mg mb s R B hst hsz hN X Tp hd hu hG hok her
  have hb : Binds [(Str.ofString "well", .ref aW)] := .mk
  walk_at "mine enter"
  k_steps
  all_goals walk_at "mine end"
  all_goals exact ⟨[(aW, _), (aC, _), (_, _)], ⟨_, _, _, _, _, _, rfl, by first | exact span_a (by assumption) | exact span_b (by assumption) (by assumption) | exact span_c (by assumption) (by assumption) (by assumption) (by assumption), by assumption, by k_ne, by k_ne, rfl⟩, by walk_at "mine mem"⟩
theorem words_04 : True := by
  k_with "binaryOp Mult int int" => (k_here; (refine mul_int ?_ (by with_reducible assumption)))
  trivial
/-- what words of memory cost -/
noncomputable def costI (w : Int) : Int := 3 * w + w * w / 512
theorem cost_price {w : Int} (h0 : 0 ≤ w) : 3 * w + 512 * (w / 512) * (w / 512) + 2 * (w / 512) * (w % 512) + (w % 512) * (w % 512) / 512 = costI w := by
  unfold costI
  have e : w = 512 * (w / 512) + w % 512 := by omega
  generalize w / 512 = m at *
  generalize w % 512 = l at *
  subst e
  have e2 : (512 * m + l) * (512 * m + l) = l * l + 512 * (512 * m * m + 2 * m * l) := by grind
  rw [e2, Int.add_mul_ediv_left _ _ (by decide)]
  omega
theorem mulOk_of {a b : Int} (ha : a.natAbs < 2 ^ 1000) (hb : b.natAbs < 2 ^ 1000) : IntMulOk a b :=
  IntMulOk.of_le (intBits_le ha) (intBits_le hb) (by decide)
theorem mulOk_sq {w : Int} (h0 : 0 ≤ w) (h1 : w < 2 ^ 300) : IntMulOk w w := by
  have : w.natAbs < 2 ^ 1000 := by
    have h2 : (w.natAbs : Int) < ((2 ^ 1000 : Nat) : Int) := by
      rw [Int.natAbs_of_nonneg h0]; exact Int.lt_trans h1 (by decide +kernel)
    exact Int.ofNat_lt.mp h2
  exact mulOk_of this this
theorem mulOk_price {w : Int} (h0 : 0 ≤ w) (h1 : w < 2 ^ 300) : IntMulOk (512 * w.fdiv 512) (w.fdiv 512) := by
  rw [Int.fdiv_eq_ediv_of_nonneg _ (by decide)]
  have h3 : 0 ≤ w / 512 := by omega
  have h4 : 512 * (w / 512) ≤ w := by omega
  have h5 : w / 512 ≤ w := by omega
  have k : ∀ a : Int, 0 ≤ a → a ≤ w → a.natAbs < 2 ^ 1000 := fun a ha hb => by
    have h2 : (a.natAbs : Int) < ((2 ^ 1000 : Nat) : Int) := by
      rw [Int.natAbs_of_nonneg ha]; exact Int.lt_trans (Int.lt_of_le_of_lt hb h1) (by decide +kernel)
    exact Int.ofNat_lt.mp h2
  exact mulOk_of (k _ (by omega) h4) (k _ h3 h5)
theorem okI {a b : Int} {t : Tok} {news : Led} (e : a = b) : ∃ T' : Led, (∃ t', Value.int a t = .int b t' ∧ T' = []) ∧ ∀ p ∈ T', p ∈ news := ⟨[], ⟨t, by rw [e], rfl⟩, fun _ hp => nomatch hp⟩
theorem fill_eq {n : Int} (_h0 : 0 ≤ n) : (n.fdiv 32 + if decide (0 < n.fmod 32) = true then 1 else 0) = (n + 31) / 32 := by
  rw [Int.fdiv_eq_ediv_of_nonneg _ (by decide), Int.fmod_eq_emod_of_nonneg _ (by decide)]
  simp only [decide_eq_true_eq]
  split <;> omega
theorem memcost_eq {n : Int} : 3 * n + (n * n).fdiv 512 = costI n := by
  rw [Int.fdiv_eq_ediv_of_nonneg _ (by decide)]; rfl
theorem price_eq {n : Int} (h0 : 0 ≤ n) : 3 * n + 512 * n.fdiv 512 * n.fdiv 512 + 2 * n.fdiv 512 * n.fmod 512 + (n.fmod 512 * n.fmod 512).fdiv 512 = costI n := by
  rw [← cost_price h0, Int.fdiv_eq_ediv_of_nonneg _ (by decide), Int.fdiv_eq_ediv_of_nonneg _ (by decide), Int.fmod_eq_emod_of_nonneg _ (by decide)]
set_option maxHeartbeats 4000000 in
theorem wordsof_spec (w : World) (n : Int) (t : Tok) (h0 : 0 ≤ n) :
    CSpec w 10 28 [.int n t] [] (fun _ => True) (fun v T' => ∃ t', v = .int ((n + 31) / 32) t' ∧ T' = []) (fun _ _ _ _ _ => False) := by
  unfold CSpec
  k_fill
  intro dp un gd outer base g mean mg mb s R B hst hsz hN X Tp hd hu hG hok her
  have hb : Binds [(Str.ofString "size", .int n t)] := .mk
  walk_at "mine enter"
  k_steps
  all_goals walk_at "mine end"
  all_goals exact okI (Int.fdiv_eq_ediv_of_nonneg _ (by decide))
set_option maxHeartbeats 4000000 in
theorem fill_spec (w : World) (n : Int) (t : Tok) (h0 : 0 ≤ n) :
    CSpec w 10 327 [.int n t] [] (fun _ => True) (fun v T' => ∃ t', v = .int ((n + 31) / 32) t' ∧ T' = []) (fun _ _ _ _ _ => False) := by
  unfold CSpec
  k_fill
  intro dp un gd outer base g mean mg mb s R B hst hsz hN X Tp hd hu hG hok her
  have hb : Binds [(Str.ofString "size", .int n t)] := .mk
  walk_at "mine enter"
  k_steps
  all_goals walk_at "mine end"
  all_goals exact okI (fill_eq h0)
set_option maxHeartbeats 4000000 in
theorem memcost_spec (w : World) (n : Int) (t : Tok) (h0 : 0 ≤ n) (h1 : n < 2 ^ 300) :
    CSpec w 10 35 [.int n t] [] (fun _ => True) (fun v T' => ∃ t', v = .int (costI n) t' ∧ T' = []) (fun _ _ _ _ _ => False) := by
  unfold CSpec
  k_fill
  intro dp un gd outer base g mean mg mb s R B hst hsz hN X Tp hd hu hG hok her
  have hb : Binds [(Str.ofString "words", .int n t)] := .mk
  have hm := mulOk_sq h0 h1
  walk_at "mine enter"
  k_steps
  all_goals walk_at "mine end"
  all_goals exact okI (memcost_eq)
set_option maxHeartbeats 4000000 in
theorem price_spec (w : World) (n : Int) (t : Tok) (h0 : 0 ≤ n) (h1 : n < 2 ^ 300) :
    CSpec w 10 334 [.int n t] [] (fun _ => True) (fun v T' => ∃ t', v = .int (costI n) t' ∧ T' = []) (fun _ _ _ _ _ => False) := by
  unfold CSpec
  k_fill
  intro dp un gd outer base g mean mg mb s R B hst hsz hN X Tp hd hu hG hok her
  have hb : Binds [(Str.ofString "words", .int n t)] := .mk
  have hm := mulOk_price h0 h1
  walk_at "mine enter"
  k_steps
  all_goals walk_at "mine end"
  all_goals exact okI (price_eq h0)
/-- an end that the walk does not open -/
noncomputable def Ended (p : Prop) : Prop := p
theorem while_rule {prog : Program} {w : World} {A : Around} {E : Value → Shared → Prop} {env : Env} {test : PySem.Expr} {body : List Stmt} {pos : Pos} {Q : Flow → Shared → Prop} (I : Nat → Shared → Prop) (hE : PassesOwn (model prog w) A env E)
    (step : ∀ k s, I k s → wpAny (model prog w) A (isTrue test env (eval test env)) (fun b s₂ => WhlIf b (wpAny (model prog w) A (execs body env) (fun f s₃ => match f with | .next => Ended (∃ k', k' < k ∧ I k' s₃) | .cont => Ended (∃ k', k' < k ∧ I k' s₃) | .brk => Q .next s₃ | .ret v => Q (.ret v) s₃) E s₂) (wpAny (model prog w) A (execs [] env) Q E s₂)) E s)
    (k : Nat) {s : Shared} (h : I k s) : wpAny (model prog w) A (exec (.While test body [] pos) env) Q E s := by
  have all : ∀ n k s, k < n → I k s → WhlRest prog w A E env test body [] Q 0 s := by
    intro n
    induction n with
    | zero => intro k s hk _; exact absurd hk (Nat.not_lt_zero _)
    | succ n ih =>
      intro k s hk hI
      refine whl_turn (k := 0) hE (wpAny_mono (step k s hI) (fun b s₂ hb => ?_) fun _ _ x => x)
      cases b with
      | false => exact hb
      | true =>
        refine WhlIf.yes rfl (wpAny_mono (show wpAny _ _ _ _ _ _ from hb) (fun f s₃ hf => ?_) fun _ _ x => x)
        cases f with
        | next => obtain ⟨k', hk', hI'⟩ := hf; exact ih k' s₃ (by omega) hI'
        | cont => obtain ⟨k', hk', hI'⟩ := hf; exact ih k' s₃ (by omega) hI'
        | brk => exact hf
        | ret v => exact hf
  exact whl_start 0 (all (k + 1) k s (Nat.lt_succ_self _) h)
theorem Fr.to {g h : Heap} {L : Addr} {m m' : Str → Option Value} (F : Fr g L h m) (e : ∀ y, m y = m' y) : Fr g L h m' := (funext e : m = m') ▸ F
/-- the figures to the base 256 -/
noncomputable def figI (n : Int) : Int := ((Builtin.Int.intBits n : Int) + 7) / 8
theorem figI_zero : figI 0 = 0 := by decide
theorem figI_step {n : Int} (h : 0 < n) : figI (n / 256) + 1 = figI n := by
  obtain ⟨k, rfl⟩ := Int.eq_ofNat_of_zero_le (Int.le_of_lt h)
  have e : ((k : Int) / 256) = ((k / 256 : Nat) : Int) := by omega
  rw [e]
  unfold figI
  have a1 := natAbs_lt_pow_bits (k : Int)
  have a2 := natAbs_lt_pow_bits ((k / 256 : Nat) : Int)
  rw [Int.natAbs_natCast] at a1 a2
  have b1 : Builtin.Int.intBits (k : Int) ≤ Builtin.Int.intBits ((k / 256 : Nat) : Int) + 8 := by
    refine intBits_le ?_
    rw [Int.natAbs_natCast, Nat.pow_add]
    generalize 2 ^ Builtin.Int.intBits ((k / 256 : Nat) : Int) = z at *
    omega
  by_cases hk : k < 256
  · have z : k / 256 = 0 := by omega
    rw [z] at b1 ⊢
    have z2 : Builtin.Int.intBits ((0 : Nat) : Int) = 0 := by decide
    rw [z2] at b1 ⊢
    have c1 : Builtin.Int.intBits (k : Int) ≠ 0 := by
      intro q
      rw [q] at a1
      omega
    omega
  · have c1 : ∀ j, Builtin.Int.intBits (k : Int) = j + 8 → Builtin.Int.intBits ((k / 256 : Nat) : Int) ≤ j := by
      intro j hj
      refine intBits_le ?_
      rw [Int.natAbs_natCast]
      rw [hj, Nat.pow_add] at a1
      generalize 2 ^ j = z at *
      omega
    have c2 : 9 ≤ Builtin.Int.intBits (k : Int) := by
      false_or_by_contra
      rename_i q
      have : 2 ^ Builtin.Int.intBits (k : Int) ≤ 2 ^ 8 := Nat.pow_le_pow_right (by decide) (by omega)
      omega
    have c3 := c1 (Builtin.Int.intBits (k : Int) - 8) (by omega)
    omega
theorem words_05 : True := by
  k_with "mine stop" => with_reducible show wpAny _ _ (PySem.exec (Stmt.While _ _ _ _) _) _ _ _
  trivial
set_option maxHeartbeats 4000000 in
theorem exp_spec (w : World) (n : Int) (t : Tok) :
    CSpec w 10 42 [.int n t] [] (fun _ => True) (fun v T' => ∃ t', v = .int (50 * figI n) t' ∧ T' = []) (fun _ _ _ _ _ => False) := by
  unfold CSpec
  k_fill
  intro dp un gd outer base g mean mg mb s R B hst hsz hN X Tp hd hu hG hok her
  have hb : Binds [(Str.ofString "power", .int n t)] := .mk
  walk_at "mine enter"
  k_steps
  all_goals walk_at "mine end"
  all_goals exact okI (by rw [Int.fdiv_eq_ediv_of_nonneg _ (by decide)]; rfl)
set_option maxHeartbeats 4000000 in
theorem figs_spec (w : World) (n : Int) (t : Tok) (h0 : 0 ≤ n) :
    CSpec w 10 341 [.int n t] [] (fun _ => True) (fun v T' => ∃ t', v = .int (figI n) t' ∧ T' = []) (fun _ _ _ _ _ => False) := by
  unfold CSpec
  k_fill
  intro dp un gd outer base g mean mg mb s R B hst hsz hN X Tp hd hu hG hok her
  have hb : Binds [(Str.ofString "number", .int n t)] := .mk
  walk_at "mine enter"
  walk_at "mine steps"
  rename_i L h1 l1 h2 F0 N0
  refine while_rule (fun k s' => ∃ (m c : Int) (t1 t2 : Tok) (h : Heap) (tk : Nat), s' = { s with heap := h, toks := tk } ∧ k = m.toNat ∧ 0 ≤ m ∧ c + figI m = figI n ∧
    Fr g L h (fun y => if y = Str.ofString "number" then some (.int m t1) else if y = Str.ofString "many" then some (.int c t2) else none) ∧ News g L h []) (by passes_own) ?_ n.toNat ?_
  · rintro k s' ⟨m, c, t1, t2, h, tk, rfl, rfl, hm, hc, F, N⟩
    clear F0 N0
    k_fold
    walk_at "mine steps"
    by_cases hp : 0 < m
    · refine WhlIf.yes (decide_eq_true hp) ?_
      k_fold
      walk_at "mine steps"
      rename_i F1 N1
      have hq : m.fdiv 256 = m / 256 := Int.fdiv_eq_ediv_of_nonneg _ (by decide)
      have hs := figI_step hp
      rw [hq] at F1
      refine' ⟨(m / 256).toNat, by omega, m / 256, c + 1, _, _, _, _, rfl, rfl, by omega, by omega, Fr.to F1 ?hf, N1⟩
      case hf =>
      intro y
      by_cases h1 : y = Str.ofString "number"
      · subst h1; rfl
      · by_cases h2 : y = Str.ofString "many"
        · subst h2; rfl
        · simp [h1, h2]
    · refine WhlIf.no (decide_eq_false hp) ?_
      try dsimp only
      have hz : m = 0 := by omega
      subst hz
      rw [figI_zero] at hc
      try k_fold
      walk_at "mine steps"
      all_goals walk_at "mine end"
      all_goals exact okI (by omega)
  · refine' ⟨n, 0, t, _, _, _, rfl, rfl, h0, by omega, Fr.to F0 ?hf, N0⟩
    case hf =>
    intro y
    by_cases h1 : y = Str.ofString "number"
    · subst h1; rfl
    · by_cases h2 : y = Str.ofString "many"
      · subst h2; rfl
      · simp [h1, h2, List.lookup, beq_eq_false_iff_ne.mpr h1]
theorem words_06 : True := by
  k_with "mine pure" => ( (case kB => assumption); (case kF => k_asm); (case kN => k_asm); (case kX => assumption); (case kT => assumption); (case khf => exact rfl); (case khk => exact rfl); (case kd => walk_at "mine num"); (case ku => walk_at "mine num"); (case kG => exact fun _ _ => trivial); (case kE => exact fun _ _ _ _ _ _ _ er _ => er.elim))
  k_with "mine pure end" => ( intro zqv' zqT' zqh' zqtk' zqok zqF' zqN' zqd1 zqd2; (obtain ⟨zqt', zqe1, zqe2⟩ := zqok); (subst zqe1); (subst zqe2); (clear zqd1 zqd2); (try dsimp only [List.cons_append, List.nil_append] at zqN'); (revert zqh' zqtk' zqF' zqN' zqt'); intros; (try dsimp only); (try k_sweep); (try k_fold))
  k_with "mine p" => ((case kB => assumption); (case kF => k_asm); (case kN => k_asm); (case kX => assumption); (case kT => assumption); (case khf => exact rfl); (case khk => exact rfl); (case kd => walk_at "mine num"); (case ku => walk_at "mine num"))
  k_with "mine p end" => (intro _ _ _ _ _; (try dsimp only); (try k_sweep); (try k_fold))
  k_with "mine ge0" => first | assumption | decide | omega
  k_with "mine lt300" => first | assumption | omega
  k_with "call ref" => ( k_here; (with_reducible show wpAny _ _ (PySem.call (Value.ref 28) _ _) _ _ _); k_dflt ( refine' useP (wordsof_spec _ _ _ ?w30s1) ?kB ?kF ?kN ?kX ?kT ?khf ?khk ?kd ?ku ?_; (case w30s1 => walk_at "mine ge0"); walk_at "mine p"; k_whole); walk_at "mine p end")
  k_with "call ref" => ( k_here; (with_reducible show wpAny _ _ (PySem.call (Value.ref 327) _ _) _ _ _); k_dflt ( refine' useP (fill_spec _ _ _ ?w31s1) ?kB ?kF ?kN ?kX ?kT ?khf ?khk ?kd ?ku ?_; (case w31s1 => walk_at "mine ge0"); walk_at "mine p"; k_whole); walk_at "mine p end")
  k_with "call ref" => ( k_here; (with_reducible show wpAny _ _ (PySem.call (Value.ref 35) _ _) _ _ _); k_dflt ( refine' useP (memcost_spec _ _ _ ?w32s1 ?w32s2) ?kB ?kF ?kN ?kX ?kT ?khf ?khk ?kd ?ku ?_; (case w32s1 => walk_at "mine ge0"); (case w32s2 => walk_at "mine lt300"); walk_at "mine p"; k_whole); walk_at "mine p end")
  k_with "call ref" => ( k_here; (with_reducible show wpAny _ _ (PySem.call (Value.ref 334) _ _) _ _ _); k_dflt ( refine' useP (price_spec _ _ _ ?w33s1 ?w33s2) ?kB ?kF ?kN ?kX ?kT ?khf ?khk ?kd ?ku ?_; (case w33s1 => walk_at "mine ge0"); (case w33s2 => walk_at "mine lt300"); walk_at "mine p"; k_whole); walk_at "mine p end")
  k_with "call ref" => ( k_here; (with_reducible show wpAny _ _ (PySem.call (Value.ref 42) _ _) _ _ _); k_dflt ( refine' useP (exp_spec _ _ _) ?kB ?kF ?kN ?kX ?kT ?khf ?khk ?kd ?ku ?_; walk_at "mine p"; k_whole); walk_at "mine p end")
  k_with "call ref" => ( k_here; (with_reducible show wpAny _ _ (PySem.call (Value.ref 341) _ _) _ _ _); k_dflt ( refine' useP (figs_spec _ _ _ ?w35s1) ?kB ?kF ?kN ?kX ?kT ?khf ?khk ?kd ?ku ?_; (case w35s1 => walk_at "mine ge0"); walk_at "mine p"; k_whole); walk_at "mine p end")
  trivial
set_option maxHeartbeats 4000000 in
theorem costs_spec (w : World) (n : Int) (t : Tok) (h0 : 0 ≤ n) (h1 : n < 2 ^ 300) :
    CSpec w 20 348 [.int n t] [] (fun _ => True) (fun v T' => v = .bool true ∧ T' = []) (fun _ _ _ _ _ => False) := by
  unfold CSpec
  k_fill
  intro dp un gd outer base g mean mg mb s R B hst hsz hN X Tp hd hu hG hok her
  have hb : Binds [(Str.ofString "number", .int n t)] := .mk
  walk_at "mine enter"
  walk_at "mine steps"
  all_goals walk_at "mine end"
  all_goals first
    | ((with_reducible rename _ ≠ _ => hx); exact absurd rfl hx)
    | exact ⟨[], ⟨rfl, rfl⟩, fun _ hp => nomatch hp⟩
    | (refine ⟨[], ⟨?_, rfl⟩, fun _ hp => nomatch hp⟩; simp)
theorem callType_S {prog : Program} {w : World} {A : Around} {E : Value → Shared → Prop} {s : Shared} {T newId initId : String} {Bi : Builtin} {args : List Value} {Q Q₁ : Value → Shared → Prop} (ft : TypeCalled T newId initId)
    (hct : checkTypeCall T ⟨args, []⟩ = pure ()) (entryI : entryFor table initId = some Bi) (hn : exportIds.contains initId = false)
    (hnew : codeAny (model prog w) A.in1 (.call (.builtin newId) ⟨.type T :: args, []⟩) (wants Q₁ E) s)
    (hnext : ∀ obj s₁, Q₁ obj s₁ → s₁.TypeIs obj T ∧ argsOk initId ⟨obj :: args, []⟩ ∧
      wpS (model prog w) A.in1.in1 (Bi ⟨obj :: args, []⟩)
        (fun fin s' => match fin with | .done f => wants (fun r s₂ => r = .none ∧ Q obj s₂) E (.ok f) s' | .again c' => c'.quiet = true ∧ codeS (model prog w) A.in1 c' (wants (fun r s₂ => r = .none ∧ Q obj s₂) E) s')
        (fun e s' => wants (fun r s₂ => r = .none ∧ Q obj s₂) E (.error e) s') s₁) :
    wpS (model prog w) A (call (.type T) args) Q E s := by
  obtain ⟨c, tl, hmro⟩ := ft.mro
  have hmade := ft.made
  have hsub := ft.sub
  refine wpS_call (codeS_of_tree rfl ?_)
  show wpS _ _ (callAny (.type T) _) _ _ _
  refine wpS_pure ⟨Code.quiet_builtin _ (by decide +kernel), codeS_builtin F.entry_type_call (by decide +kernel) ?_⟩
  rw [Around.under_plain (weight_type_call_type T args []) rfl]
  have h1 := ft.notType
  have h2 := ft.canCreate
  unfold Builtin.«type.__call__»
  dsimp only
  simp only [h1, Bool.false_eq_true, if_false]
  rw [if_neg (by rw [h2]; exact Bool.false_ne_true)]
  refine wpS_bind (wpS_of_eq hct ?_)
  refine wpS_bind (wpS_of_eq hmro ?_)
  simp only [List.isEmpty_cons, Bool.false_eq_true, if_false]
  refine wpS_bind (wpS_of_eq hmade ?_)
  dsimp only
  refine wpS_bind (wpS_pure ?_)
  refine wpS_bind (wpS_holding (wpS_any (wpAny_call (codeAny_mono hnew fun r s₁ hr => ?_))))
  cases r with
  | error e => exact hr
  | ok fl =>
    cases fl with
    | ret obj =>
      obtain ⟨hT, hok, hsi⟩ := hnext _ _ hr
      refine wpS_bind (wpS_any (wpAny_isInstance hT hsub ?_))
      simp only [Bool.not_true, Bool.false_eq_true, if_false]
      refine wpS_bind (wpS_holding ?_)
      simp only [callSpecial?]
      refine wpS_bind (wpS_any (wpAny_specialOf hT ft.init.lookup ?_))
      simp only [ft.init.bind]
      refine wpS_holding (wpS_bind (wpS_pure (wpS_bind (wpS_call (codeS_mono (codeS_call_builtin ft.init.plain entryI hn (ft.init.check _ _ _ _ _ _ _ _ hT hok hsi)) fun r₂ s₂ hr₂ => ?_)))))
      cases r₂ with
      | error e => exact hr₂
      | ok fl₂ =>
        cases fl₂ with
        | ret r =>
          obtain ⟨rfl, hq⟩ := hr₂
          refine wpS_pure ?_
          exact wpS_pure hq
        | _ => exact hr₂.elim
    | _ => exact hr.elim
theorem ba_mro : mroOf (.type "bytearray") = pure [.type "bytearray", .type "object"] := by rw [mroOf_type]; kernel_rfl
theorem ba_lookup_new : typeLookup (.type "bytearray") "__new__" = pure (some (.builtin "bytearray.__new__")) := by rw [typeLookup_type, builtinLookup_eq_fast]; kernel_rfl
theorem ba_slot_init : Slot "bytearray" "__init__" "bytearray.__init__" :=
  .of (owner := "bytearray") (n := "__init__") (by rw [typeLookup_type, builtinLookup_eq_fast]; kernel_rfl) (by decide +kernel) (by decide +kernel) (by decide +kernel)
    (by first | exact .inl (by decide +kernel) | exact .inr (by decide +kernel)) (by rw [isSubtype_type]; kernel_rfl)
theorem ba_called : TypeCalled "bytearray" "bytearray.__new__" "bytearray.__init__" :=
  ⟨by decide +kernel, by decide +kernel, ⟨_, _, ba_mro⟩, madeBy_type ba_mro ba_lookup_new (by decide +kernel), by decide +kernel, by rw [isSubtype_type]; kernel_rfl, ba_slot_init⟩
theorem ba_typeCall (l : List Value) : checkTypeCall "bytearray" ⟨l, []⟩ = pure () := by kernel_rfl
theorem ba_newCall (l : List Value) : checkBuiltinCall "bytearray.__new__" ⟨.type "bytearray" :: l, []⟩ = pure () := by kernel_rfl
theorem ba_plain : plainId "bytearray.__new__" = true := by decide +kernel
theorem ba_entry_new : entryFor table "bytearray.__new__" = some Builtin.«list.__new__» := entryFor_alias (id' := "list.__new__") (by kernel_rfl) rfl (by decide +kernel) (by kernel_rfl)
theorem ba_entry_init : entryFor table "bytearray.__init__" = some Builtin.«bytearray.__init__» := by first | exact entryFor_of_fast (by kernel_rfl) | exact entryFor_of_tree (by kernel_rfl)
theorem ba_args0 (a : Value) : argsOk "bytearray.__init__" ⟨[a], []⟩ := by unfold argsOk; kernel_rfl
theorem ba_args1 (a b : Value) : argsOk "bytearray.__init__" ⟨[a, b], []⟩ := by unfold argsOk; kernel_rfl
theorem ba_sub : isSubtype (.type "bytearray") (.type "bytearray") = pure true := by rw [isSubtype_type]; kernel_rfl
theorem ba_release : typeLookup (.type "bytearray") "__release_buffer__" = pure (some (.builtin "bytearray.__release_buffer__")) := by rw [typeLookup_type, builtinLookup_eq_fast]; kernel_rfl
theorem ba_buffer : typeLookup (.type "bytearray") "__buffer__" = pure (some (.builtin "bytearray.__buffer__")) := by rw [typeLookup_type, builtinLookup_eq_fast]; kernel_rfl
theorem ba_bytes : typeLookup (.type "bytearray") "__bytes__" = pure none := by rw [typeLookup_type, builtinLookup_eq_fast]; kernel_rfl
theorem ba_index : typeLookup (.type "bytearray") "__index__" = pure none := by rw [typeLookup_type, builtinLookup_eq_fast]; kernel_rfl
theorem ba_bind0 : Builtin.Bytes.bindOptional "bytearray.__init__" "bytearray" ["source", "encoding", "errors"] [] [] = pure [none, none, none] := by kernel_rfl
theorem ba_bind1 (v : Value) : Builtin.Bytes.bindOptional "bytearray.__init__" "bytearray" ["source", "encoding", "errors"] [v] [] = pure [some v, none, none] := by kernel_rfl
theorem ba_owner : ("bytearray.__new__".splitOn ".__new__").headD "" = "bytearray" := by first | decide +kernel | (simp +decide [String.splitOn, String.splitOnAux])
section
variable {prog : Program} {w : World} {A : Around} {E : Value → Shared → Prop} {s : Shared}
theorem ba_type {a : Addr} {b : Array UInt8} {n : Nat} (h : s.heap.get? a = some { cls := .type "bytearray", data := .bytearray b n }) : s.TypeIs (.ref a) "bytearray" := ⟨_, h, rfl⟩
theorem ba_slotIsOwn {M : Model} {a : Addr} {name : String} {id : String} {Q : Bool → Shared → Prop} (hT : s.TypeIs (.ref a) "bytearray") (hl : typeLookup (.type "bytearray") (name : Str) = pure (some (.builtin id)))
    (he : id.endsWith ("." ++ name) = true) (hd : id.dropRight (name.length + 1) = "bytearray") (h : Q true s) : wpAny M A (Builtin.Bytes.slotIsOwn (.ref a) name) Q E s := by
  unfold Builtin.Bytes.slotIsOwn
  refine wpAny_bind (wpAny_specialOf hT hl ?_)
  dsimp only
  rw [if_neg (by rw [he]; decide), hd]
  exact wpAny_isInstance hT ba_sub h
theorem ba_ownRelease {M : Model} {a : Addr} {Q : Bool → Shared → Prop} (hT : s.TypeIs (.ref a) "bytearray") (h : Q false s) : wpAny M A (Builtin.Bytes.ownRelease (.ref a)) Q E s := by
  unfold Builtin.Bytes.ownRelease
  exact wpAny_bind (ba_slotIsOwn hT ba_release (by decide +kernel) (by decide +kernel) (wpAny_pure h))
theorem ba_new (l : List Value) {Q₁ : Value → Shared → Prop} (h : Q₁ (.ref s.heap.objs.size) { s with heap := s.heap.push { cls := .type "bytearray", data := .bytearray #[] } }) :
    codeAny (model prog w) A (.call (.builtin "bytearray.__new__") ⟨.type "bytearray" :: l, []⟩) (wants Q₁ E) s := by
  refine codeAny_of_tree ?_
  show wpAny _ A.in1 (do checkBuiltinCall "bytearray.__new__" ⟨.type "bytearray" :: l, []⟩; again (.builtin "bytearray.__new__" ⟨.type "bytearray" :: l, []⟩)) _ _ s
  refine wpAny_bind (wpAny_of_eq (ba_newCall l) (wpAny_pure ⟨plainId_quiet ba_plain _, codeAny_builtin_stack ba_entry_new rfl fun p st => ?_⟩))
  rw [Around.under_plainId ba_plain _]
  have hsub := ba_sub
  have hown := ba_owner
  obtain ⟨hp, g, d, tk, os⟩ := s
  simp only [hown]
  wp_walk
  exact h
theorem ba_payload {M : Model} {a : Addr} {b : Array UInt8} {n : Nat} {Q : Array UInt8 → Shared → Prop} (h : s.heap.get? a = some { cls := .type "bytearray", data := .bytearray b n }) (hQ : Q b s) : wpAny M A (Builtin.Bytes.payload (.ref a)) Q E s := by
  unfold Builtin.Bytes.payload Builtin.Bytes.payload?
  refine wpAny_bind (wpAny_bind (wpAny_load h ?_))
  exact wpAny_pure (wpAny_pure hQ)
theorem ba_write {M : Model} {a : Addr} {b : Array UInt8} {f : Array UInt8 → Array UInt8} {Q : Unit → Shared → Prop} (h : s.heap.get? a = some { cls := .type "bytearray", data := .bytearray b }) (hz : (f b).size ≤ sizeLine)
    (hQ : Q () { s with heap := s.heap.update a (Obj.mapBytearray f) }) : wpAny M A (Builtin.Bytes.write (.ref a) f) Q E s := by
  show wpAny _ _ (updateBytearray a f) _ _ _
  unfold updateBytearray
  refine wpAny_bind (wpAny_load h ?_)
  show wpAny _ _ (update a (Obj.mapBytearray f) >>= fun _ => lookBehind a) _ _ _
  refine wpAny_bind (wpAny_update h ?_)
  have h2 : (s.heap.update a (Obj.mapBytearray f)).get? a = some { cls := .type "bytearray", data := .bytearray (f b) } := Heap.get?_update_self (Obj.mapBytearray f) h rfl
  refine wpAny_lookBehind h2 ?_ hQ
  show (if (f b).size > sizeLine then some "bytearray:memory" else none) = none
  rw [if_neg (Nat.not_lt.mpr hz)]
theorem ba_exports {M : Model} {a : Addr} {b : Array UInt8} {n : Nat} {Q : Nat → Shared → Prop} (h : s.heap.get? a = some { cls := .type "bytearray", data := .bytearray b n }) (hQ : Q n s) : wpAny M A (Builtin.Bytes.exportsOf (.ref a)) Q E s := by
  unfold Builtin.Bytes.exportsOf
  exact wpAny_bind (wpAny_load h (wpAny_pure hQ))
theorem ba_init0 {P : Fin → Shared → Prop} {a : Addr} (h : s.heap.get? a = some { cls := .type "bytearray", data := .bytearray #[] })
    (hQ : P (.done (.ret .none)) { s with heap := s.heap.update a (Obj.mapBytearray fun _ => #[]) }) : wpS (model prog w) A (Builtin.«bytearray.__init__» ⟨[.ref a], []⟩) P E s := by
  have hT := ba_type h
  unfold Builtin.«bytearray.__init__»
  dsimp only
  refine wpS_bind (wpS_any (ba_ownRelease hT ?_))
  simp only [Bool.false_eq_true, if_false]
  refine wpS_bind (wpS_of_eq ba_bind0 ?_)
  dsimp only
  refine wpS_bind (wpS_of_eq (a := ()) rfl ?_)
  refine wpS_bind (wpS_of_eq (a := ()) rfl ?_)
  refine wpS_bind ?_
  show wpS _ _ (Builtin.Bytes.exported (.ref a) >>= _) _ _ _
  refine wpS_bind (wpS_exported ?_)
  show wpS _ _ (Builtin.Bytes.exportsOf (.ref a) >>= _) _ _ _
  refine wpS_bind (wpS_any (ba_exports h ?_))
  refine wpS_pure ?_
  rw [if_neg (by decide)]
  refine wpS_bind (wpS_any (ba_write h (by decide) ?_))
  exact wpS_pure hQ
theorem call_ba0 {Q : Value → Shared → Prop} (h : Q (.ref s.heap.objs.size) { s with heap := (s.heap.push { cls := .type "bytearray", data := .bytearray #[] }).update s.heap.objs.size (Obj.mapBytearray fun _ => #[]) }) :
    wpS (model prog w) A (call (.type "bytearray") []) Q E s := by
  refine callType_S (Q₁ := fun obj s₁ => obj = .ref s.heap.objs.size ∧ s₁ = { s with heap := s.heap.push { cls := .type "bytearray", data := .bytearray #[] } }) ba_called (ba_typeCall _) ba_entry_init (by decide +kernel) (ba_new _ ⟨rfl, rfl⟩) ?_
  rintro obj s₁ ⟨rfl, rfl⟩
  have hS : (s.heap.push { cls := .type "bytearray", data := .bytearray #[] }).get? s.heap.objs.size = some { cls := .type "bytearray", data := .bytearray #[] } := Heap.get?_push_size _ rfl
  exact ⟨ba_type hS, ba_args0 _, ba_init0 hS ⟨rfl, h⟩⟩
theorem by_index : typeLookup (.type "bytes") "__index__" = pure none := by rw [typeLookup_type, builtinLookup_eq_fast]; kernel_rfl
theorem by_buffer {id : String} {b : Array UInt8} {t : Tok} : Builtin.Bytes.buffer? id (.bytes b t) (full := true) = pure (some b) := by
  unfold Builtin.Bytes.buffer?
  rw [KBy.special_eq KBy.look_buffer, KBy.own_buffer, KBy.own_release]
  kernel_rfl
theorem ba_init1 {P : PySem.Fin → Shared → Prop} {a : Addr} {b : Array UInt8} {t : Tok} (h : s.heap.get? a = some { cls := .type "bytearray", data := .bytearray #[] }) (hz : b.size ≤ sizeLine)
    (hQ : P (.done (.ret .none)) { s with heap := (s.heap.update a (Obj.mapBytearray fun _ => #[])).update a (Obj.mapBytearray fun _ => b) }) : wpS (model prog w) A (Builtin.«bytearray.__init__» ⟨[.ref a, .bytes b t], []⟩) P E s := by
  have hT := ba_type h
  unfold Builtin.«bytearray.__init__»
  dsimp only
  refine wpS_bind (wpS_any (ba_ownRelease hT ?_))
  simp only [Bool.false_eq_true, if_false]
  refine wpS_bind (wpS_of_eq (ba_bind1 _) ?_)
  dsimp only
  refine wpS_bind (wpS_of_eq (a := ()) rfl ?_)
  refine wpS_bind (wpS_of_eq (a := ()) rfl ?_)
  refine wpS_bind ?_
  show wpS _ _ (Builtin.Bytes.exported (.ref a) >>= _) _ _ _
  refine wpS_bind (wpS_exported ?_)
  show wpS _ _ (Builtin.Bytes.exportsOf (.ref a) >>= _) _ _ _
  refine wpS_bind (wpS_any (ba_exports h ?_))
  refine wpS_pure ?_
  rw [if_neg (by decide)]
  refine wpS_bind (wpS_any (ba_write h (by decide) ?_))
  have h2 : (s.heap.update a (Obj.mapBytearray fun _ => #[])).get? a = some { cls := .type "bytearray", data := .bytearray #[] } := Heap.get?_update_self (Obj.mapBytearray fun _ => #[]) h rfl
  refine wpS_bind (wpS_of_eq (a := (none : Option PySem.Str)) rfl ?_)
  simp only [Option.isSome_none, Bool.false_eq_true, if_false, pure_bind]
  refine wpS_bind (wpS_of_eq (KBy.special_eq by_index) ?_)
  simp only [Option.isSome_none, Bool.false_eq_true, if_false]
  refine wpS_bind (wpS_of_eq by_buffer ?_)
  dsimp only
  refine wpS_bind (wpS_any (wpAny_rule ?_))
  refine wpS_bind (wpS_any (ba_write h2 hz ?_))
  exact wpS_pure hQ
theorem call_ba1 {b : Array UInt8} {t : Tok} {Q : Value → Shared → Prop} (hz : b.size ≤ sizeLine)
    (h : Q (.ref s.heap.objs.size) { s with heap := ((s.heap.push { cls := .type "bytearray", data := .bytearray #[] }).update s.heap.objs.size (Obj.mapBytearray fun _ => #[])).update s.heap.objs.size (Obj.mapBytearray fun _ => b) }) :
    wpS (model prog w) A (call (.type "bytearray") [.bytes b t]) Q E s := by
  refine callType_S (Q₁ := fun obj s₁ => obj = .ref s.heap.objs.size ∧ s₁ = { s with heap := s.heap.push { cls := .type "bytearray", data := .bytearray #[] } }) ba_called (ba_typeCall _) ba_entry_init (by decide +kernel) (ba_new _ ⟨rfl, rfl⟩) ?_
  rintro obj s₁ ⟨rfl, rfl⟩
  have hS : (s.heap.push { cls := .type "bytearray", data := .bytearray #[] }).get? s.heap.objs.size = some { cls := .type "bytearray", data := .bytearray #[] } := Heap.get?_push_size _ rfl
  exact ⟨ba_type hS, ba_args1 _ _, ba_init1 hS hz ⟨rfl, h⟩⟩
theorem wpS_call_entry {T : String} {name : PySem.Str} {id : String} {b : Builtin} {self : Value} {rest : List Value} {Q : Value → Shared → Prop} (h : Slot T name id) (hT : s.TypeIs self T) (hb : entryFor table id = some b) (hn : exportIds.contains id = false)
    (hc : wpS (model prog w) A.in1 (b ⟨self :: rest, []⟩) (fun fin s' => ∃ v, fin = .done (.ret v) ∧ Q v s') E s) (ha : argsOk id ⟨self :: rest, []⟩) : wpS (model prog w) A (call (.builtin id) (self :: rest)) Q E s := by
  refine wpS_call (codeS_call_builtin h.plain hb hn (h.check _ _ _ _ _ _ _ _ hT ha (wpS_mono hc (fun fin s' h' => ?_) fun _ _ h' => h')))
  obtain ⟨v, rfl, hv⟩ := h'; exact hv
theorem ba_slot_extend : Slot "bytearray" "extend" "bytearray.extend" :=
  .of (owner := "bytearray") (n := "extend") (by rw [typeLookup_type, builtinLookup_eq_fast]; kernel_rfl) (by decide +kernel) (by decide +kernel) (by decide +kernel)
    (by first | exact .inl (by decide +kernel) | exact .inr (by decide +kernel)) (by rw [isSubtype_type]; kernel_rfl)
theorem ba_entry_extend : entryFor table "bytearray.extend" = some Builtin.«bytearray.extend» := by first | exact entryFor_of_fast (by kernel_rfl) | exact entryFor_of_tree (by kernel_rfl)
theorem ba_args_extend (a b : Value) : argsOk "bytearray.extend" ⟨[a, b], []⟩ := by unfold argsOk; kernel_rfl
theorem ba_checkResize {a : Addr} {b : Array UInt8} {Q : Unit → Shared → Prop} (h : s.heap.get? a = some { cls := .type "bytearray", data := .bytearray b }) (hQ : Q () s) : wpS (model prog w) A (Builtin.Bytes.checkResize (.ref a)) Q E s := by
  unfold Builtin.Bytes.checkResize
  refine wpS_bind ?_
  show wpS _ _ (Builtin.Bytes.exported (.ref a) >>= _) _ _ _
  refine wpS_bind (wpS_exported ?_)
  show wpS _ _ (Builtin.Bytes.exportsOf (.ref a) >>= _) _ _ _
  refine wpS_bind (wpS_any (ba_exports h ?_))
  refine wpS_pure ?_
  rw [if_neg (by decide)]
  exact wpS_pure hQ
theorem by_take {c : Array UInt8} {t : Tok} : Builtin.Bytes.takeBufferQuiet? "bytearray.extend" (.bytes c t) 0 = pure (some (c, none)) := by
  unfold Builtin.Bytes.takeBufferQuiet? Builtin.Bytes.takeBuffer?
  rw [KBy.special_eq KBy.look_buffer, KBy.own_buffer, show ((0 : Int) == Builtin.Bytes.fullReadOnly) = false from by decide, KBy.buffer_eq]
  kernel_rfl
theorem call_ba_extend {a : Addr} {b c : Array UInt8} {t : Tok} {Q : Value → Shared → Prop} (h : s.heap.get? a = some { cls := .type "bytearray", data := .bytearray b }) (hz : (b ++ c).size ≤ sizeLine)
    (hQ : Q .none { s with heap := s.heap.update a (Obj.mapBytearray (· ++ c)) }) : wpS (model prog w) A (call (.builtin "bytearray.extend") [.ref a, .bytes c t]) Q E s := by
  refine wpS_call_entry ba_slot_extend (ba_type h) ba_entry_extend (by decide +kernel) ?_ (ba_args_extend _ _)
  unfold Builtin.«bytearray.extend»
  dsimp only
  refine wpS_bind (wpS_of_eq (a := (Value.ref a, Value.bytes c t)) (by kernel_rfl) ?_)
  dsimp only
  refine wpS_bind (wpS_of_eq (KBy.special_eq KBy.look_buffer) ?_)
  simp only [Option.isSome_some, if_true]
  refine wpS_bind (wpS_any (wpAny_rule ?_))
  refine wpS_bind (wpS_any (ba_payload h ?_))
  refine wpS_bind (wpS_of_eq by_take ?_)
  simp only [Option.isNone_none, if_true]
  show wpS _ _ (if (!c.isEmpty) = true then (do Builtin.Bytes.checkResize (.ref a); Builtin.Bytes.write (.ref a) (· ++ c); ret .none) else (do Builtin.Bytes.write (.ref a) (· ++ c); ret .none)) _ _ _
  have last : wpS (model prog w) A.in1 (do Builtin.Bytes.write (.ref a) (· ++ c); ret .none) (fun fin s' => ∃ v, fin = .done (.ret v) ∧ Q v s') E s :=
    wpS_bind (wpS_any (ba_write h hz (wpS_pure ⟨_, rfl, hQ⟩)))
  split
  · exact wpS_bind (ba_checkResize h last)
  · exact last
end
section
variable {prog : Program} {w : World} {A : Around} {E : Value → Shared → Prop} {s : Shared}
noncomputable abbrev baObj (b : Array UInt8) : Obj := { cls := .type "bytearray", data := .bytearray b }
theorem bn_no_bytes_int : typeLookup (.type "int") "__bytes__" = pure none := by rw [typeLookup_type, builtinLookup_eq_fast]; kernel_rfl
theorem bn_asStr_int {n : Int} {t : Tok} : asStr? (.int n t) = pure none := by first | rfl | kernel_rfl
/-- bytes(n) -/
theorem bn_new {n : Int} {t : Tok} {Q : Value → Shared → Prop} (h0 : 0 ≤ n) (h1 : n ≤ 16777216) (hQ : ∀ t', Q (.bytes (Array.replicate n.toNat 0) t') { s with toks := s.toks + 1 }) :
    codeAny (model prog w) A (.call (.builtin "bytes.__new__") ⟨[.type "bytes", .int n t], []⟩) (wants Q E) s := by
  refine codeAny_of_tree ?_
  show wpAny _ A.in1 (do checkBuiltinCall "bytes.__new__" ⟨[.type "bytes", .int n t], []⟩; again (.builtin "bytes.__new__" ⟨[.type "bytes", .int n t], []⟩)) _ _ s
  refine wpAny_bind (wpAny_of_eq (F.bm_newCall _) (wpAny_pure ⟨plainId_quiet F.bm_plain _, codeAny_builtin F.bm_entry ?_⟩))
  rw [Around.under_plainId F.bm_plain _]
  unfold Builtin.«bytes.__new__»
  refine wpAny_bind (wpAny_of_eq (a := true) rfl ?_)
  refine bm_if_false rfl ?_
  refine wpAny_bind (wpAny_of_eq F.bm_sub ?_)
  refine bm_if_false rfl ?_
  refine wpAny_bind (wpAny_of_eq (F.bm_bind _) ?_)
  refine wpAny_bind (wpAny_of_eq (a := ()) rfl ?_)
  refine wpAny_bind (wpAny_of_eq (a := ()) rfl ?_)
  refine bm_if_false rfl ?_
  refine wpAny_bind (wpAny_specialOf (typeIs_int s n t) bn_no_bytes_int ?_)
  refine wpAny_bind (wpAny_bind (wpAny_of_eq bn_asStr_int (wpAny_pure ?_)))
  refine bm_if_false rfl ?_
  refine wpAny_bind (wpAny_specialOf (typeIs_int s n t) F.slot_int_index.lookup ?_)
  refine bm_if_false rfl ?_
  refine wpAny_bind (wpAny_attempt (wpAny_of_eq (rfl : asIndex (.int n t) = pure n) ?_))
  refine bm_if_false (by simp only [Bool.not_eq_false', Builtin.Bytes.fitsIndex, Bool.and_eq_true, decide_eq_true_eq]; omega) ?_
  refine wpAny_ite ?_
  rw [if_neg (by omega)]
  refine wpAny_ite ?_
  rw [if_neg (by omega)]
  refine bm_if_false (KBy.tooLong_not (by omega)) ?_
  refine wpAny_bind (wpAny_rule ?_)
  refine wpAny_bind (wpAny_mkBytes ?_ (by rw [Array.size_replicate, sizeLine_eq]; omega))
  show wpAny _ _ (if (Value.type "bytes" == Value.type "bytes") = true then _ else _) _ _ _
  refine bm_if_true (by decide) ?_
  first
    | exact wpAny_pure (hQ _)
    | exact wpAny_bind (wpAny_pure (wpAny_pure (hQ _)))
theorem call_bytes_n {n : Int} {t : Tok} {Q : Value → Shared → Prop} (h0 : 0 ≤ n) (h1 : n ≤ 16777216) (hQ : ∀ t', Q (.bytes (Array.replicate n.toNat 0) t') { s with toks := s.toks + 1 }) : wpAny (model prog w) A (call (.type "bytes") [.int n t]) Q E s := by
  refine callType_codes (Q₁ := fun obj s₁ => s₁.TypeIs obj "bytes" ∧ Q obj s₁) F.bm_called (F.bm_typeCall _) F.entry_object_init
    (bn_new h0 h1 fun t' => ⟨PySem.W.typeIs_bytes _ _ _, hQ t'⟩) fun obj s₁ h₁ => ?_
  exact ⟨h₁.1, F.args_object_init_2 obj _, object_init_meets F.bm_called.init.lookup F.bm_called.made (by decide) prog w A.in1 _ s₁ ⟨h₁.1, rfl, h₁.2⟩⟩
theorem ba_buffer_wp {M : Model} {id : String} {full : Bool} {a : Addr} {b : Array UInt8} {Q : Option (Array UInt8) → Shared → Prop} (h : s.heap.get? a = some (baObj b)) (hQ : Q (some b) s) : wpAny M A (Builtin.Bytes.buffer? id (.ref a) full) Q E s := by
  have hT := ba_type h
  unfold Builtin.Bytes.buffer?
  refine wpAny_bind (wpAny_specialOf hT ba_buffer ?_)
  try dsimp only
  refine wpAny_bind (ba_slotIsOwn hT ba_buffer (by decide +kernel) (by decide +kernel) ?_)
  refine bm_if_false rfl ?_
  refine wpAny_bind (wpAny_specialOf hT ba_buffer ?_)
  try dsimp only
  refine wpAny_bind (ba_ownRelease hT ?_)
  refine bm_if_false rfl ?_
  exact wpAny_bind (ba_payload h (wpAny_pure hQ))
/-- bytes(b) of a bytearray -/
theorem bb_new {a : Addr} {b : Array UInt8} {Q : Value → Shared → Prop} (h : s.heap.get? a = some (baObj b)) (hz : b.size ≤ sizeLine) (hQ : ∀ t', Q (.bytes b t') { s with toks := s.toks + 1 }) :
    codeAny (model prog w) A (.call (.builtin "bytes.__new__") ⟨[.type "bytes", .ref a], []⟩) (wants Q E) s := by
  have hT := ba_type h
  refine codeAny_of_tree ?_
  show wpAny _ A.in1 (do checkBuiltinCall "bytes.__new__" ⟨[.type "bytes", .ref a], []⟩; again (.builtin "bytes.__new__" ⟨[.type "bytes", .ref a], []⟩)) _ _ s
  refine wpAny_bind (wpAny_of_eq (F.bm_newCall _) (wpAny_pure ⟨plainId_quiet F.bm_plain _, codeAny_builtin F.bm_entry ?_⟩))
  rw [Around.under_plainId F.bm_plain _]
  unfold Builtin.«bytes.__new__»
  refine wpAny_bind (wpAny_of_eq (a := true) rfl ?_)
  refine bm_if_false rfl ?_
  refine wpAny_bind (wpAny_of_eq F.bm_sub ?_)
  refine bm_if_false rfl ?_
  refine wpAny_bind (wpAny_of_eq (F.bm_bind _) ?_)
  refine wpAny_bind (wpAny_of_eq (a := ()) rfl ?_)
  refine wpAny_bind (wpAny_of_eq (a := ()) rfl ?_)
  refine bm_if_false rfl ?_
  refine wpAny_bind (wpAny_specialOf hT ba_bytes ?_)
  refine wpAny_bind (wpAny_bind ?_)
  show wpAny _ _ (load a >>= _) _ _ _
  refine wpAny_bind (wpAny_load h ?_)
  refine wpAny_pure (wpAny_pure ?_)
  refine bm_if_false rfl ?_
  refine wpAny_bind (wpAny_specialOf hT ba_index ?_)
  refine bm_if_true rfl ?_
  show wpAny _ _ (Builtin.Bytes.buffer? "bytes.__new__" (.ref a) true >>= _) _ _ _
  refine wpAny_bind (ba_buffer_wp h ?_)
  try dsimp only
  refine wpAny_bind (wpAny_rule ?_)
  refine wpAny_bind (wpAny_mkBytes ?_ hz)
  show wpAny _ _ (if (Value.type "bytes" == Value.type "bytes") = true then _ else _) _ _ _
  refine bm_if_true (by decide) ?_
  first
    | exact wpAny_pure (hQ _)
    | exact wpAny_bind (wpAny_pure (wpAny_pure (hQ _)))
theorem call_bytes_ba {a : Addr} {b : Array UInt8} {Q : Value → Shared → Prop} (h : s.heap.get? a = some (baObj b)) (hz : b.size ≤ sizeLine) (hQ : ∀ t', Q (.bytes b t') { s with toks := s.toks + 1 }) : wpAny (model prog w) A (call (.type "bytes") [.ref a]) Q E s := by
  refine callType_codes (Q₁ := fun obj s₁ => s₁.TypeIs obj "bytes" ∧ Q obj s₁) F.bm_called (F.bm_typeCall _) F.entry_object_init
    (bb_new h hz fun t' => ⟨PySem.W.typeIs_bytes _ _ _, hQ t'⟩) fun obj s₁ h₁ => ?_
  exact ⟨h₁.1, F.args_object_init_2 obj _, object_init_meets F.bm_called.init.lookup F.bm_called.made (by decide) prog w A.in1 _ s₁ ⟨h₁.1, rfl, h₁.2⟩⟩
end
section
variable {prog : Program} {w : World} {A : Around} {E : Value → Shared → Prop} {s : Shared}
theorem ba_slot_getitem : Slot "bytearray" "__getitem__" "bytearray.__getitem__" :=
  .of (owner := "bytearray") (n := "__getitem__") (by rw [typeLookup_type, builtinLookup_eq_fast]; kernel_rfl) (by decide +kernel) (by decide +kernel) (by decide +kernel)
    (by first | exact .inl (by decide +kernel) | exact .inr (by decide +kernel)) (by rw [isSubtype_type]; kernel_rfl)
theorem ba_entry_getitem : entryFor table "bytearray.__getitem__" = some Builtin.«bytearray.__getitem__» := by first | exact entryFor_of_fast (by kernel_rfl) | exact entryFor_of_tree (by kernel_rfl)
theorem ba_args_getitem (a b : Value) : argsOk "bytearray.__getitem__" ⟨[a, b], []⟩ := by unfold argsOk; kernel_rfl
theorem ba_slot_setitem : Slot "bytearray" "__setitem__" "bytearray.__setitem__" :=
  .of (owner := "bytearray") (n := "__setitem__") (by rw [typeLookup_type, builtinLookup_eq_fast]; kernel_rfl) (by decide +kernel) (by decide +kernel) (by decide +kernel)
    (by first | exact .inl (by decide +kernel) | exact .inr (by decide +kernel)) (by rw [isSubtype_type]; kernel_rfl)
theorem ba_entry_setitem : entryFor table "bytearray.__setitem__" = some Builtin.«bytearray.__setitem__» := by first | exact entryFor_of_fast (by kernel_rfl) | exact entryFor_of_tree (by kernel_rfl)
theorem ba_args_setitem (a b c : Value) : argsOk "bytearray.__setitem__" ⟨[a, b, c], []⟩ := by unfold argsOk; kernel_rfl
theorem ba_sliceParts {M : Model} {sl : Addr} {l u : Value} {lo hi : Option Int} {Q : Value × Value × Value → Shared → Prop} (hl : IsPart l lo) (hu : IsPart u hi) (hS : s.heap.IsSliceOf sl l u .none) (hQ : Q (rawPart lo, rawPart hi, rawPart none) s) :
    wpAny M A (Builtin.Bytes.sliceParts (.ref sl)) Q E s := by
  obtain ⟨o, ho, hc, hd⟩ := hS
  unfold Builtin.Bytes.sliceParts
  refine wpAny_bind (wpAny_field (x := .none) ho hd rfl ?_)
  kby_none
  refine wpAny_ite (KBy.ite_no (show ¬ ((Value.none == rawInt 0) = true) from Bool.false_ne_true) ?_)
  refine wpAny_bind (wpAny_field (x := l) ho hd rfl ?_)
  cases hl <;> cases hu <;> (first
    | (kby_none; (refine wpAny_bind (wpAny_field (x := .none) ho hd rfl ?_)); kby_none)
    | (kby_none; (refine wpAny_bind (wpAny_field (x := .int _ _) ho hd rfl ?_)); kby_int)
    | (kby_int; (refine wpAny_bind (wpAny_field (x := .none) ho hd rfl ?_)); kby_none)
    | (kby_int; (refine wpAny_bind (wpAny_field (x := .int _ _) ho hd rfl ?_)); kby_int)) <;> exact wpAny_pure hQ
theorem ba_notIndex {M : Model} {sl : Addr} {l u : Value} {Q : Option Int → Shared → Prop} (hS : s.heap.IsSliceOf sl l u .none) (hQ : Q none s) : wpAny M A (Builtin.Bytes.subscript? (.ref sl)) Q E s := by
  obtain ⟨o, ho, hc, hd⟩ := hS
  unfold Builtin.Bytes.subscript?
  exact wpAny_bind (wpAny_specialOf (show s.TypeIs (.ref sl) "slice" from ⟨o, ho, hc⟩) slice_no_index (wpAny_pure hQ))
theorem ba_getslice {a sl : Addr} {b : Array UInt8} {l u : Value} {lo hi : Option Int} {Q : Value → Shared → Prop} (h : s.heap.get? a = some (baObj b)) (hl : IsPart l lo) (hu : IsPart u hi) (hS : s.heap.IsSliceOf sl l u .none)
    (hz : b.size ≤ sizeLine) (hQ : Q (.ref s.heap.objs.size) { s with heap := s.heap.push (baObj (KBy.picked b lo hi)) }) : wpAny (model prog w) A (getItem (.ref a) (.ref sl)) Q E s := by
  have hT := ba_type h
  have hTs : s.TypeIs (.ref sl) "slice" := let ⟨o, ho, hc, _⟩ := hS; ⟨o, ho, hc⟩
  refine wpAny_getItem_slot hT (by decide) ba_slot_getitem (wpAny_call_entry ba_slot_getitem hT ba_entry_getitem ?_ (ba_args_getitem _ _))
  show wpAny _ _ (Builtin.Bytes.subscript? (.ref sl) >>= fun r => _) _ _ s
  refine wpAny_bind (ba_notIndex hS ?_)
  refine wpAny_bind (wpAny_typeOf hTs ?_)
  show wpAny _ _ (Builtin.Bytes.sliceParts (.ref sl) >>= fun r => _) _ _ s
  refine wpAny_bind (ba_sliceParts hl hu hS ?_)
  dsimp only
  refine wpAny_bind (ba_payload h ?_)
  refine wpAny_bind (wpAny_of_eq (sliceIndices_raw lo hi none b.size (fun e => nomatch e)) ?_)
  refine wpAny_bind ?_
  unfold Builtin.Bytes.newBytearray
  refine wpAny_newObj_type (wpAny_pure ⟨_, rfl, hQ⟩) ?_
  exact Nat.le_trans (KBc.size_picked_le b lo hi) hz
theorem ba_setat {a : Addr} {b : Array UInt8} {k x : Int} {t u : Tok} {Q : Unit → Shared → Prop} (h : s.heap.get? a = some (baObj b)) (h0 : 0 ≤ k) (h1 : k < b.size) (hz : b.size ≤ sizeLine) (x0 : 0 ≤ x) (x1 : x < 256)
    (hQ : Q () { s with heap := s.heap.update a (Obj.mapBytearray (·.setIfInBounds k.toNat x.toNat.toUInt8)) }) : wpAny (model prog w) A (setItem (.ref a) (.int k t) (.int x u)) Q E s := by
  have hT := ba_type h
  have hz' : b.size ≤ 16777216 := by rw [sizeLine_eq] at hz; exact hz
  unfold setItem
  try with_reducible refine wpAny_holding ?_
  first | refine wpAny_bind (wpAny_pure ?_) | skip
  refine wpAny_bind (wpAny_sequenceKey hT (by decide) ?_)
  refine wpAny_bind (wpAny_callSpecial?_slot (name := Str.ofString "__setitem__") hT ba_slot_setitem
    (wpAny_call_entry ba_slot_setitem hT ba_entry_setitem ?_ (ba_args_setitem _ _ _)))
  show wpAny _ _ (Builtin.Bytes.subscript? (.int k t) >>= fun r => _) _ _ s
  refine wpAny_bind ?_
  unfold Builtin.Bytes.subscript?
  refine wpAny_bind (wpAny_specialOf (typeIs_int s k t) F.slot_int_index.lookup ?_)
  refine bm_if_false rfl ?_
  refine wpAny_bind (wpAny_of_eq (rfl : asIndex (.int k t) = pure k) ?_)
  refine bm_if_false (by simp only [Bool.not_eq_false', Builtin.Bytes.fitsIndex, Bool.and_eq_true, decide_eq_true_eq]; omega) ?_
  refine wpAny_pure ?_
  show wpAny _ _ (Builtin.Bytes.byteValue (.int x u) >>= fun r => _) _ _ s
  refine wpAny_bind ?_
  unfold Builtin.Bytes.byteValue
  refine wpAny_bind (wpAny_of_eq (rfl : asIndex (.int x u) = pure x) ?_)
  refine bm_if_false (by simp only [Bool.or_eq_false_iff, decide_eq_false_iff_not]; omega) ?_
  refine wpAny_pure ?_
  refine wpAny_bind (ba_payload h ?_)
  have e : seqIndex? k b.size = some k.toNat := by
    have h2 : ¬ k < 0 := by omega
    simp [seqIndex?, h2, h0, h1]
  rw [e]
  dsimp only
  refine wpAny_bind (ba_write h (by rw [Array.size_setIfInBounds]; exact hz) ?_)
  first
    | exact wpAny_pure ⟨.none, rfl, wpAny_pure hQ⟩
    | exact wpAny_bind (wpAny_pure (wpAny_pure ⟨.none, rfl, wpAny_pure hQ⟩))
end
/-! rules of the statements under S -/
section
variable {M : Model} {A : Around} {E : Value → Shared → Prop} {s : Shared} {env : Env}
theorem S_nil {Q : Flow → Shared → Prop} (h : Q .next s) : wpS M A (execs [] env) Q E s := wpS_pure h
theorem S_cons {st rest} {Q : Flow → Shared → Prop} (h : wpS M A (exec st env) (fun f s' => match f with | .next => wpS M A (execs rest env) Q E s' | f => Q f s') E s) : wpS M A (execs (st :: rest) env) Q E s := by
  rw [execs_cons]
  refine wpS_bind (wpS_mono h (fun f s' h' => ?_) fun _ _ x => x)
  cases f <;> first | exact h' | exact wpS_pure h'
theorem S_If {test body orelse pos} {Q : Flow → Shared → Prop} (h : wpS M A (isTrue test env (eval test env)) (fun b s₂ => if b then wpS M A (execs body env) Q E s₂ else wpS M A (execs orelse env) Q E s₂) E s) : wpS M A (exec (.If test body orelse pos) env) Q E s := by
  rw [exec_If]
  refine wpS_bind (wpS_any (wpAny_standAt (wpS_bind (wpS_mono h (fun b s₂ h₂ => ?_) fun _ _ x => x))))
  cases b <;> exact h₂
theorem S_Return {e pos} {Q : Flow → Shared → Prop} (h : wpS M A (eval e env) (fun v => Q (.ret v)) E s) : wpS M A (exec (.Return (some e) pos) env) Q E s := by
  rw [exec_Return_some]
  exact wpS_bind (wpS_any (wpAny_standAt (wpS_bind (wpS_mono h (fun _ _ x => wpS_pure x) fun _ _ x => x))))
theorem S_Expr {e pos} {Q : Flow → Shared → Prop} (h : wpS M A (eval e env) (fun v s' => v = .none ∧ Q .next s') E s) (hi : interactive env = false := by rfl) (hs : swapsWith e none pos.line env = pure false := by rfl) : wpS M A (exec (.Expr e pos) env) Q E s := by
  rw [exec_Expr env e pos hi hs]
  refine wpS_bind (wpS_any (wpAny_standAt (wpS_bind (wpS_mono h (fun v s' h' => ?_) fun _ _ x => x))))
  obtain ⟨rfl, hq⟩ := h'
  rw [dropValue_plain (by intro a e; cases e)]
  exact wpS_pure hq
theorem S_isTrue_not {x pos whole} {Q : Bool → Shared → Prop} (h : wpS M A (isTrue x env (eval x env)) (fun c s' => Q (!c) s') E s) : wpS M A (isTrue (.UnaryOp .Not x pos) env whole) Q E s := by
  show wpS M A (do return !(← isTrue x env (eval x env))) Q E s
  exact wpS_bind (wpS_mono h (fun c s' h' => wpS_pure h') fun _ _ x => x)
theorem S_or_nil {pos whole} {Q : Bool → Shared → Prop} (h : Q false s) : wpS M A (isTrue (.BoolOp .Or [] pos) env whole) Q E s := wpS_pure (a := false) h
theorem S_or {x rest pos whole} {Q : Bool → Shared → Prop} (h : wpS M A (isTrue x env (eval x env)) (fun c s' => if c then Q true s' else wpS M A (isTrue (.BoolOp .Or rest pos) env whole) Q E s') E s) : wpS M A (isTrue (.BoolOp .Or (x :: rest) pos) env whole) Q E s := by
  show wpS M A (do
    match BoolOp.Or, ← isTrue x env (eval x env) with
    | .And, false => pure false
    | .Or, true => pure true
    | _, _ => allTrue .Or rest env) Q E s
  refine wpS_bind (wpS_mono h (fun c s' h' => ?_) fun _ _ x => x)
  cases c with
  | false => exact h'
  | true => exact wpS_pure h'
theorem S_plain {e : PySem.Expr} {whole : Sem Value} {Q : Bool → Shared → Prop} (h : wpS M A whole (fun v s₁ => wpAny M A (truthy v) Q E s₁) E s)
    (he : isTrue e env whole = (do let v ← whole; standAt e.pos; holding [v] (truthy v)) := by rfl) : wpS M A (isTrue e env whole) Q E s := by
  rw [he]
  exact wpS_bind (wpS_mono h (fun v s₁ h₁ => wpS_any (wpAny_bind (wpAny_standAt (wpAny_holding h₁)))) fun _ _ x => x)
theorem S_cmp {l op r pos whole} {Q : Bool → Shared → Prop}
    (h : wpS M A (eval l env) (fun a s₁ => wpAny M A (eval r env) (fun b s₂ => wpAny M A (compareOp op a b) (fun c s₃ => wpAny M A (truthy c) Q E s₃) E s₂) E s₁) E s)
    (hm : behindInMarks op r = false := by with_unfolding_all rfl) : wpS M A (isTrue (.Compare l [op] [r] pos) env whole) Q E s := by
  rw [isTrue_Compare1]
  refine wpS_bind (wpS_mono h (fun a s₁ h₁ => ?_) fun _ _ x => x)
  refine wpS_any (fun Γ p hΓ => ?_)
  simp only [markedBehindIn_of_false hm, Sem.wp_bind', Sem.wp_holding, Sem.wp_cmd_standAt, Sem.wp_operate]
  exact Sem.wp_mono M Γ _ (fun b _ s₂ h₂ => Sem.wp_mono M Γ _ (fun c p₃ s₃ h₃ => h₃ Γ p₃ hΓ) (fun _ _ _ h' => h') _ _ (h₂ Γ _ hΓ)) (fun _ _ _ h' => h') _ _ (h₁ Γ p hΓ)
theorem S_callX {f : Value} {first : List Value} {pos : Pos} {args : List (Bool × Sem Value)} {keywords : List (Option PySem.Str × Sem Value)} {P : Heap → Prop} {Q : Value → Shared → Prop} (hplain : (args.any (·.1) || keywords.any (·.1.isNone)) = false)
    (hk : ∀ h, P h → ∃ k, (k = Keeper.frame ∨ k = Keeper.machine ∨ k = Keeper.boundFrame) ∧ Looks M h (keeperOf f) k)
    (h : wpS M A (evalArgs f true args keywords) (fun a s₁ => P s₁.heap ∧ wpS M A (call f (first ++ a.pos) a.kw) Q E s₁) E s) : wpS M A (callWith pos f first args keywords) Q E s := by
  unfold callWith
  refine wpS_bind (wpS_holding (wpS_mono h (fun a s₁ h₁ => wpS_bind (wpS_any (wpAny_standAt ?_))) fun _ _ x => x))
  obtain ⟨k, hk', L⟩ := hk _ h₁.1
  simp only [hplain]
  refine wpS_bind (wpS_any (L.here ?_))
  have tail : ∀ {t : Sem Value}, wpS M A t Q E s₁ → wpS M A (t >>= fun r => holding [r] point >>= fun _ => pure r) Q E s₁ :=
    fun ht => wpS_bind (wpS_mono ht (fun r s₂ hr => wpS_any (wpAny_bind (wpAny_holding (wpAny_point (wpAny_pure hr))))) fun _ _ x => x)
  have marked (mk : Value) : wpS M A (callMarked mk f (first ++ a.pos) a.kw) Q E s₁ := by unfold callMarked; exact wpS_keep h₁.2
  rcases hk' with rfl | rfl | rfl <;> dsimp only <;> first | exact tail h₁.2 | (split <;> first | exact tail h₁.2 | exact tail (marked _))
theorem S_args {f : Value} {x : Sem Value} {rest : List (Bool × Sem Value)} {Q : Args → Shared → Prop} (h : wpS M A (spliced ((false, x) :: rest)) (fun vs s' => Q ⟨vs, []⟩ s') E s) : wpS M A (evalArgs f true ((false, x) :: rest) []) Q E s := by
  unfold evalArgs
  show wpS M A (spliced ((false, x) :: rest) >>= _) Q E s
  refine wpS_bind (wpS_mono h (fun vs s' h' => ?_) fun _ _ x => x)
  refine wpS_holding ?_
  exact wpS_bind (wpS_pure (wpS_bind (wpS_pure (wpS_pure h'))))
theorem S_args0 {f : Value} {Q : Args → Shared → Prop} (h : Q ⟨[], []⟩ s) : wpS M A (evalArgs f true [] []) Q E s := wpS_any (evalArgs_nil3 h)
theorem S_one {x : Sem Value} {Q : List Value → Shared → Prop} (h : wpS M A x (fun v s₁ => Q [v] s₁) E s) : wpS M A (spliced [(false, x)]) Q E s := by
  rw [spliced]
  refine wpS_bind (wpS_mono h (fun v s₁ h₁ => ?_) fun _ _ x => x)
  simp only [Bool.false_eq_true, if_false]
  exact wpS_any (wpAny_bind (wpAny_pure (wpAny_bind (wpAny_holding (Calls.spliced_nil (wpAny_pure h₁))))))
theorem S_tryStmt {body orelse : Sem Flow} {h₀ : ExceptHandler} {hs : List ExceptHandler} {Q : Flow → Shared → Prop}
    (h : wpS M A body (fun f s₁ => match f with | .next => wpS M A orelse Q E s₁ | f => Q f s₁)
      (fun e s₁ => wpAny M A (noteFrame e env) (fun _ s₂ => wpAny M A (setFlight e none) (fun _ s₃ => wpAny M A (handleBy e env (h₀ :: hs)) Q E s₃) E s₂) E s₁) s) :
    wpS M A (tryStmt false body (h₀ :: hs) orelse [] env) Q E s := by
  unfold tryStmt
  simp only [List.isEmpty_nil, if_true, List.isEmpty_cons, Bool.false_and, Bool.false_eq_true, if_false]
  refine wpS_bind (wpS_attempt (wpS_mono h (fun f s₁ h₁ => ?_) fun e s₁ h₁ => ?_))
  · cases f <;> first | exact h₁ | exact wpS_pure h₁
  · exact wpS_any (wpAny_bind (wpAny_mono h₁ (fun _ _ h₂ => wpAny_bind h₂) fun _ _ x => x))
theorem S_Try {body orelse : List Stmt} {h₀ : ExceptHandler} {hs : List ExceptHandler} {pos : Pos} {Q : Flow → Shared → Prop}
    (h : wpS M A (execs body env) (fun f s₁ => match f with | .next => wpS M A (execs orelse env) Q E s₁ | f => Q f s₁)
      (fun e s₁ => wpAny M A (noteFrame e env) (fun _ s₂ => wpAny M A (setFlight e none) (fun _ s₃ => wpAny M A (handleBy e env (h₀ :: hs)) Q E s₃) E s₂) E s₁) s) :
    wpS M A (exec (.Try body (h₀ :: hs) orelse [] pos) env) Q E s := by
  rw [arm_exec_Try]
  exact wpS_bind (wpS_any (wpAny_standAt (S_tryStmt h)))
theorem S_AssignAttr {o attr pos' value pos} {Q : Flow → Shared → Prop} (h : wpS M A (eval value env) (fun v s₁ => wpAny M A (eval o env) (fun ov s₂ => wpAny M A (setAttr ov attr v) (fun _ => Q .next) E s₂) E s₁) E s)
    (hs : swapsWith value (some (.Attribute o attr pos')) pos.line env = pure false := by rfl) : wpS M A (exec (.Assign [.Attribute o attr pos'] value pos) env) Q E s := by
  rw [plainObj_exec_Assign_Attribute o attr pos' value pos hs]
  simp only [assign_Attribute]
  refine wpS_bind (wpS_any (wpAny_standAt (wpS_bind (wpS_mono h (fun v s₁ h₁ => wpS_any (fun Γ p hΓ => ?_)) fun _ _ x => x))))
  simp only [Sem.wp_bind', Sem.wp_holding, Sem.wp_cmd_standAt, Sem.wp_release, Sem.wp_pure']
  exact Sem.wp_mono M Γ _ (fun ov _ s₂ h₂ => h₂ Γ _ hΓ) (fun _ _ _ h' => h') _ _ (h₁ Γ p hΓ)
theorem wpS_standAt {pos : Pos} {Q : Unit → Shared → Prop} (h : Q () s) : wpS M A (standAt pos) Q E s := wpS_any (wpAny_standAt h)
theorem wpS_release {vs keep : List Value} {Q : Unit → Shared → Prop} (h : Q () s) : wpS M A (release vs keep) Q E s := fun Γ p _ _ _ => by rw [Sem.wp_release]; exact h
theorem S_AssignSub {o i pos' value pos} {Q : Flow → Shared → Prop} (h : wpAny M A (eval value env) (fun v s₁ => wpAny M A (eval o env) (fun ov s₂ => wpAny M A (eval i env) (fun iv s₃ => wpS M A (setItem ov iv v) (fun _ => Q .next) E s₃) E s₂) E s₁) E s)
    (hs : swapsWith value (some (.Subscript o i pos')) pos.line env = pure false := by rfl) : wpS M A (exec (.Assign [.Subscript o i pos'] value pos) env) Q E s := by
  rw [exec_Assign_Subscript o i pos' value pos hs]
  simp only [assign_Subscript]
  refine wpS_bind (wpS_standAt (wpS_bind (wpS_any (wpAny_mono h (fun v s₁ h₁ => ?_) fun _ _ x => x))))
  refine wpS_bind (wpS_bind (wpS_holding (wpS_any (wpAny_mono h₁ (fun ov s₂ h₂ => ?_) fun _ _ x => x))))
  refine wpS_bind (wpS_holding (wpS_any (wpAny_mono h₂ (fun iv s₃ h₃ => ?_) fun _ _ x => x)))
  refine wpS_bind (wpS_standAt (wpS_bind (wpS_holding (wpS_mono h₃ (fun _ s₄ h₄ => wpS_release (wpS_pure h₄)) fun _ _ x => x))))
theorem S_AssignSwap {elts k tpos value pos} {names : List PySem.Str} {Q : Flow → Shared → Prop}
    (h : wpS M A (eval value env) (fun v s₁ => wpAny M A (unpackItems v names.length none) (fun items s₂ =>
      wpAny M A (assignInOrder (names.reverse.map fun n => bindName env n) items.reverse) (fun _ => Q .next) E s₂) E s₁) E s)
    (hs : swapsWithSole [.Tuple elts k tpos] value pos.line env = pure false := by rfl)
    (hw : swappedStores [.Tuple elts k tpos] value env = pure (some names) := by rfl) :
    wpS M A (exec (.Assign [.Tuple elts k tpos] value pos) env) Q E s := by
  rw [exec_Assign]
  refine wpS_bind (wpS_standAt ?_)
  rw [hs]
  refine wpS_bind (wpS_pure ?_)
  rw [if_neg (by decide)]
  refine wpS_bind (wpS_mono h (fun v s₁ h₁ => wpS_any ?_) fun _ _ x => x)
  rw [hw]
  refine wpAny_bind (wpAny_pure ?_)
  show wpAny M A (do rule "assign.swapped-stores"; let items ← unpackItems v names.length none; assignInOrder (names.reverse.map fun n => bindName env n) items.reverse; pure .next) Q E s₁
  exact wpAny_bind (wpAny_rule (wpAny_bind (wpAny_mono h₁ (fun items s₂ h₂ => wpAny_bind (wpAny_mono h₂ (fun _ _ x => wpAny_pure x) fun _ _ x => x)) fun _ _ x => x)))
end
section
variable {prog : Program} {w : World} {A : Around} {E : Value → Shared → Prop} {s : Shared} {env : Env} {R : Result → Shared → Prop}
theorem codeS_loop {c : Code} (hc : benign c = true) (hq : c.quiet = true) {M : Model} (I : Nat → Shared → Prop)
    (turn : ∀ n s, I n s → wpS M (A.under c) (M.den c)
      (fun fin s' => match fin with
        | .done f => R (.ok f) s'
        | .again c' => (c' = c ∧ ∃ m, m < n ∧ I m s') ∨ (c'.quiet = true ∧ codeS M A c' R s')) (fun e s' => R (.error e) s') s)
    (n : Nat) (h : I n s) : codeS M A c R s := by
  induction n using Nat.strongRecOn generalizing s with
  | ind n ih =>
    refine codeS_of_tree hc (wpS_mono (turn n s h) (fun fin s' hf => ?_) fun _ _ h' => h')
    cases fin with
    | done f => exact hf
    | again c' =>
      rcases hf with ⟨rfl, m, hm, hI⟩ | hf
      · exact ⟨hq, ih m hm hI⟩
      · exact hf
end
section
variable {M : Model} {A : Around} {E : Value → Shared → Prop} {s : Shared} {env : Env}
theorem wpS_noted {α : Type} {env : Env} {m : Sem α} {Q : α → Shared → Prop} (h : wpS M A m Q (notedBy M A env E) s) : wpS M A (m.onRaise fun x => do noteFrame x env; theTreesLotGoes x) Q E s :=
  wpS_onRaise (wpS_mono h (fun _ _ q => q) fun _ _ hx => wpS_any (wpAny_bind (wpAny_mono hx (fun _ _ e => wpAny_theTreesLotGoes e) fun _ _ e => e)))
theorem wpS_runOwn {c : Code} {h : Option Value} {Q : Flow → Shared → Prop}
    (hc : codeS M (A.mark h) c (fun r s' => match r with | .ok f => Q f s' | .error e => cameBackBy M A env E e s') s) (hnb : h ≠ some byPass := by intro x; cases x) : wpS M A (runOwn c env h) Q E s := by
  unfold runOwn
  exact wpS_onRaise (wpS_mono (wpS_run hc hnb) (fun _ _ x => x) fun _ _ x => wpS_any x)
theorem S_For {target iter body orelse pos} {Q : Flow → Shared → Prop}
    (h : wpAny M A (eval iter env) (fun x s₁ => wpAny M A (pyIter x) (fun it s₂ =>
      codeS M A (.forLoop target it body orelse env) (fun r s' => match r with | .ok f => Q f s' | .error e => cameBackBy M A env E e s') s₂) E s₁) E s)
    (hs : ∀ x, foldedSetIterable iter env x = pure x := by intro _; rfl) :
    wpS M A (exec (.For target iter body orelse pos) env) Q E s := by
  rw [exec_For]
  exact wpS_bind (wpS_standAt (wpS_bind (wpS_any (wpAny_mono h (fun x s₁ h₁ => wpS_bind (wpS_of_eq (hs x) (wpS_bind (wpS_standAt (wpS_bind (wpS_holding
    (wpS_mono (wpS_any h₁) (fun it s₂ h₂ => wpS_runOwn h₂) fun _ _ h' => h'))))))) fun _ _ h' => h'))))
end
section
variable {prog : Program} {w : World} {A : Around} {E : Value → Shared → Prop} {s : Shared} {env : Env} {R : Result → Shared → Prop}
theorem codeS_forLoop {target : PySem.Expr} {it : Value} {body orelse : List Stmt} (I : Nat → Shared → Prop)
    (turn : ∀ n s, I n s → wpAny (model prog w) A (pyNext it) (fun r s₁ => match r with
      | none => wpAny (model prog w) A (execs orelse env) (fun f s₃ => R (.ok f) s₃) (notedBy (model prog w) A env fun e s' => R (.error e) s') s₁
      | some v => wpAny (model prog w) A (assign target env v) (fun _ s₂ => wpS (model prog w) A (execs body env) (fun f s₃ => match f with
          | .next | .cont => ∃ m, m < n ∧ I m s₃
          | .brk => R (.ok .next) s₃
          | .ret v => R (.ok (.ret v)) s₃) (notedBy (model prog w) A env fun e s' => R (.error e) s') s₂) (notedBy (model prog w) A env fun e s' => R (.error e) s') s₁) (notedBy (model prog w) A env fun e s' => R (.error e) s') s)
    (n : Nat) (h : I n s) (ht : ∀ v, letOwnedTupleGo target it v = pure () := by intro _; rfl) : codeS (model prog w) A (.forLoop target it body orelse env) R s := by
  refine codeS_loop rfl rfl I (fun n s hI => ?_) n h
  show wpS _ _ ((forTurn target it body orelse env).onRaise (fun x => do noteFrame x env; theTreesLotGoes x)) _ _ s
  refine wpS_noted ?_
  simp only [forTurn]
  refine wpS_bind (wpS_standAt (wpS_bind (wpS_any (wpAny_onRaise (wpAny_mono (turn n s hI) (fun r s₁ h₁ => ?_) fun _ _ h' => wpAny_standAt h')))))
  cases r with
  | none => exact wpS_pure (.inr ⟨rfl, codeS_any (codeAny_block h₁)⟩)
  | some v =>
    refine wpS_bind (wpS_of_eq (ht v) ?_)
    refine wpS_bind (wpS_any (wpAny_mono h₁ (fun _ s₂ h₂ => wpS_bind (wpS_mono h₂ (fun f s₃ h₃ => ?_) fun _ _ h' => h')) fun _ _ h' => h'))
    cases f with
    | next => exact wpS_pure (.inl ⟨rfl, h₃⟩)
    | cont => exact wpS_pure (.inl ⟨rfl, h₃⟩)
    | brk => exact wpS_pure h₃
    | ret v => exact wpS_pure h₃
noncomputable def rangeO (i n : Nat) : Obj := { cls := .type "range_iterator", data := .fields #[rawInt (0 + ((i + 1 : Nat) : Int) * 1), rawInt ((n : Int) - ((i + 1 : Nat) : Int)), rawInt 1] }
/-- a loop over range(b), the invariant J over what the frame holds and the ledger -/
theorem S_range {h₀ : Heap} {x : PySem.Str} {xp : Pos} {body : List Stmt} {Q : Flow → Shared → Prop} {name : PySem.Str} {scope : Scope} {L a : Addr} {cd : Value} {r : Addr} {b₀ : Int} {t₀ u₀ v₀ : Tok} {n : Nat} {m₀ : PySem.Str → Option Value} {news : Led}
    (J : Nat → (PySem.Str → Option Value) → Led → Prop)
    (hh : A.handled = none) (hE : PassesOwn (model prog w) A (envOf name scope L a cd) E) (hr : IsRange s.heap r 0 b₀ 1 t₀ u₀ v₀) (hsmall : Builtin.Range.small 0 b₀ 1 = true) (hn : Builtin.Range.rangeSize 0 b₀ 1 = (n : Int))
    (hk : scope.kind = .function) (hx : (envOf name scope L a cd).kindOf x = some .local) (F : Fr h₀ L s.heap m₀) (N : News h₀ L s.heap news) (hj : J 0 m₀ news)
    (turn : ∀ (i : Nat) (t : Tok) m₁ news₁ h tk I o, i < n → J i m₁ news₁ → (∀ p ∈ news₁, @Ne Nat p.1 I) → Fr h₀ L h (fun y => if y = x then some (.int i t) else m₁ y) → News h₀ L h ((I, o) :: news₁) →
      wpS (model prog w) A (execs body (envOf name scope L a cd)) (fun f s₂ => match f with
        | .ret v => Q (.ret v) s₂
        | .brk => Q .next s₂
        | .next => Ended (∃ h' tk' m' news', s₂ = { s with heap := h', toks := tk' } ∧ Fr h₀ L h' m' ∧ News h₀ L h' ((I, o) :: news') ∧ (∀ p ∈ news', @Ne Nat p.1 I) ∧ J (i + 1) m' news')
        | .cont => Ended (∃ h' tk' m' news', s₂ = { s with heap := h', toks := tk' } ∧ Fr h₀ L h' m' ∧ News h₀ L h' ((I, o) :: news') ∧ (∀ p ∈ news', @Ne Nat p.1 I) ∧ J (i + 1) m' news')) E { s with heap := h, toks := tk })
    (done : ∀ m₁ news₁ h tk, J n m₁ news₁ → Fr h₀ L h m₁ → News h₀ L h news₁ → Q .next { s with heap := h, toks := tk }) :
    wpAny (model prog w) A (pyIter (.ref r)) (fun it s₂ => codeS (model prog w) A (.forLoop (.Name x xp) it body [] (envOf name scope L a cd)) (fun r s' => match r with | .ok f => Q f s' | .error e => cameBackBy (model prog w) A (envOf name scope L a cd) E e s') s₂) E s := by
  refine wpAny_pyIter_range hr hsmall ?_
  have W := Walks.range (prog := prog) (w := w) hh s.heap.objs.size 0 1 n
  let Inv : Nat → Shared → Prop := fun k s' => ∃ i h tk m₁ news₁, i ≤ n ∧ k = n - i ∧ s' = { s with heap := h, toks := tk } ∧ J i m₁ news₁ ∧ Fr h₀ L h m₁ ∧ News h₀ L h news₁ ∧ (∀ p ∈ news₁, @Ne Nat p.1 s.heap.objs.size) ∧ IsRangeIter h s.heap.objs.size (0 + (i : Nat) * 1) ((n : Int) - (i : Nat)) 1
  have hI0 : h₀.get? s.heap.objs.size = none := next_is_new F
  have hIL : @Ne Nat s.heap.objs.size L := fun e => absurd F.ns.lt (by rw [e]; exact Nat.lt_irrefl _)
  refine codeS_forLoop Inv ?_ n ⟨0, _, s.toks, m₀, news, Nat.zero_le _, rfl, rfl, hj, F.push _, (fun p hp => ⟨Heap.get?_push_of_some _ (N p hp).1, (N p hp).2⟩), ?_, ?_⟩
  · rintro k s' ⟨i, h, tk, m₁, news₁, hi, rfl, rfl, hJ, F₁, N₁, hoff, hit⟩
    have keepF : ∀ {h' : Heap}, (∀ b o, b ∉ [s.heap.objs.size] → h.get? b = some o → h'.get? b = some o) → Fr h₀ L h' m₁ ∧ News h₀ L h' news₁ := fun {h'} ke => by
      obtain ⟨oL, es, ep, hL, hLd, hLk, hLf⟩ := F₁.ns
      have kN : ∀ b o, h₀.get? b = some o → h'.get? b = some o := fun b o e => ke b o (fun m => by rw [List.mem_singleton.mp m, hI0] at e; cases e) (F₁.keep b o e)
      exact ⟨⟨⟨oL, es, ep, ke L oL (fun m => hIL (List.mem_singleton.mp m).symm) hL, hLd, hLk, hLf⟩, kN, F₁.above⟩, fun p hp => ⟨ke _ _ (fun m => hoff p hp (List.mem_singleton.mp m)) (N₁ p hp).1, (N₁ p hp).2⟩⟩
    by_cases hin : i < n
    · refine W.item i _ _ _ hin hit ?_
      rintro v h' tk' ⟨t, rfl⟩ hst ke
      obtain ⟨F₂, N₂⟩ := keepF ke
      have e1 : (0 + (i : Int) * 1) = (i : Int) := by omega
      rw [e1]
      refine wpAny_assign_Name (wpAny_storeName_local (env := envOf name scope L a cd) hx F₂.ns (fun h'' hn'' hs'' => ?_) (by rw [show (envOf name scope L a cd).scope.kind = .function from hk]; rfl))
      have hst2 : IsRangeIter h'' s.heap.objs.size (0 + ((i + 1 : Nat) : Int) * 1) ((n : Int) - ((i + 1 : Nat) : Int)) 1 := (hs''.2 _ hIL).trans hst
      refine wpS_mono (turn i t m₁ news₁ h'' (tk' + 1) s.heap.objs.size (rangeO i n) hin hJ hoff (F₂.set hn'' hs'') ?_) (fun f s₃ hf => ?_) fun e s₃ x => hE e s₃ x
      · intro p hp
        rcases List.mem_cons.mp hp with rfl | hp
        · exact ⟨hst2, hIL, hI0⟩
        · exact N₂.set hs'' p hp
      · have fin : (∃ h' tk' m' news', s₃ = { s with heap := h', toks := tk' } ∧ Fr h₀ L h' m' ∧ News h₀ L h' ((s.heap.objs.size, rangeO i n) :: news') ∧ (∀ p ∈ news', @Ne Nat p.1 s.heap.objs.size) ∧ J (i + 1) m' news') → ∃ k', k' < n - i ∧ Inv k' s₃ := by
          rintro ⟨h', tk', m', news', e, F', N', ho', hJ'⟩
          exact ⟨n - (i + 1), by omega, i + 1, h', tk', m', news', hin, rfl, e, hJ', F', fun p hp => N' p (List.mem_cons_of_mem _ hp), ho', (N' _ (List.mem_cons.mpr (.inl rfl))).1⟩
        cases f with
        | next => exact fin hf
        | cont => exact fin hf
        | brk => exact hf
        | ret v => exact hf
    · have e : i = n := by omega
      subst e
      refine W.done _ _ _ hit fun h' tk' ke => ?_
      obtain ⟨F₂, N₂⟩ := keepF ke
      exact wpAny_execs_nil (done _ _ _ _ hJ F₂ N₂)
  · intro p hp e
    exact absurd (Heap.lt_size (N p hp).1) (by rw [e]; exact Nat.lt_irrefl _)
  · show IsRangeIter _ _ _ _ _
    rw [hn]
    simpa using Heap.get?_push_size _ rfl
end
theorem codeS_call_def {prog : Program} {w : World} {A : Around} {s : Shared} {R : Result → Shared → Prop} {a : Addr} {o : Obj} {fd : FuncData} {body : List Stmt} {args : Args} {binds : List (PySem.Str × Value)}
    (hroom : A.depth < recursionLimit) (ho : s.heap.get? a = some o) (hdata : o.data = .func fd) (hlim : s.heap.NoLimit) (hcd : s.heap.CodeRec fd.code fd.qualname)
    (hbody : fd.body = .stmts body) (hbind : BindsTo s fd args binds)
    (hcell : ∀ x ∈ fd.scope.names, x.2 ≠ .cell) (hloc : ∀ x ∈ binds, fd.scope.names.lookup x.1 = some .local)
    (h : ∀ h₀, h₀.Ns s.heap.objs.size (fun x => binds.reverse.lookup x) → (∀ b o, s.heap.get? b = some o → h₀.get? b = some o) →
      wpS (model prog w) (A.deeper (callEnv fd s.heap.objs.size a)) (execs body (callEnv fd s.heap.objs.size a)) (fun f s' => R (.ok (.ret (match f with | .ret v => v | _ => .none))) s')
        (fun e s' => wpAny (model prog w) (A.deeper (callEnv fd s.heap.objs.size a)) (leaving (callEnv fd s.heap.objs.size a) e) (fun _ s'' => R (.error e) s'') (fun e' s'' => R (.error e') s'') s')
        { s with heap := h₀, toks := s.toks + binds.length })
    (hco : fd.scope.isCoroutine = false) (hgen : fd.scope.isGenerator = false) (hk : fd.scope.kind = .function) :
    codeS (model prog w) A (.call (.ref a) args) R s := by
  refine codeS_call_function hroom ho hdata hco hgen hbody hcd (hbind _ _ _ _ ?_)
  refine wpAny_newFunctionEnv hcell hloc (fun h₀ hns₀ hsb₀ => ⟨hlim.fresh _ hsb₀, codeS_func (h h₀ hns₀ fun b o e => ?_)⟩) hk
  exact hsb₀.extBut b o (Nat.ne_of_lt (Heap.lt_size e)) (Heap.get?_push_of_some _ e)
/-- the same under S: with the objects T at hand, everything else kept, it hands back Ok or raises Er -/
noncomputable def SSpec (w : World) (d : Nat) (f : Addr) (args : List Value) (T : Led) (G : Heap → Prop) (Ok : Value → Led → Prop) (Er : Heap → Heap → List Env → Addr → Heap → Prop) : Prop :=
  ∀ (dp un : Nat) (gd : Option (List Code)) (outer : List Env) (base g : Heap) (mean : ExcName → Option Value) (mg mb : Str → Option Value) (s : Shared) (R : Result → Shared → Prop),
    Below (AA dp un gd outer) base outer g → g.StaysIn s.heap → g.objs.size = s.heap.objs.size →
    (∀ p ∈ T, s.heap.get? p.1 = some p.2 ∧ g.get? p.1 = none) → (Mine.hd.heap_1 w.params).In g → Top Mine.view (looseW Mine.view [Str.ofString "WORD", Str.ofString "MOST_WORDS"]) mean mg mb g → dp + d < 990 → un + 20 * d < 9800 → G g →
    (∀ v T' h' tk', Ok v T' → g.StaysIn h' → (∀ p ∈ T', h'.get? p.1 = some p.2 ∧ g.get? p.1 = none) → R (.ok (.ret v)) { s with heap := h', toks := tk' }) →
    (∀ e h' tk', Er base g outer e h' → g.UpToSlots h' → R (.error (.ref e)) { s with heap := h', toks := tk' }) →
    codeS (model PySem.Challenge.rw_pq0393_01.row.prog w) (AA dp un gd outer) (.call (.ref f) ⟨args, []⟩) R s

theorem enterS {w : World} {A : Around} {outer : List Env} {base g : Heap} {s : Shared} {R : Result → Shared → Prop} {T : Led} {mean : ExcName → Option Value} {mg mb : Str → Option Value}
    {name qual : Str} {params : Arguments} {body : List Stmt} {scope : Scope} {dV kV doc pm cdv ct oc : Value} {an od : Option Addr} {osl : Array (Option Value)} {f : Addr} {args : Args} {binds : List (Str × Value)}
    (B : Below A base outer g) (hst : g.StaysIn s.heap) (hsz : g.objs.size = s.heap.objs.size) (N : ∀ p ∈ T, s.heap.get? p.1 = some p.2 ∧ g.get? p.1 = none) (X : (Mine.hd.heap_1 w.params).In g) (Tp : Top Mine.view (looseW Mine.view [Str.ofString "WORD", Str.ofString "MOST_WORDS"]) mean mg mb g)
    (ho : (Mine.hd.heap_1 w.params).lookup f = some ⟨oc, od, .func (fnOf name qual params body scope dV kV doc pm an cdv ct), osl⟩) (hcd : codeIn (Mine.hd.heap_1 w.params) cdv qual = true) (hroom : A.depth < recursionLimit)
    (hbind : BindsTo s (fnOf name qual params body scope dV kV doc pm an cdv ct) args binds) (hloc : ∀ y ∈ binds, scope.names.lookup y.1 = some .local)
    (h : ∀ L' h₁, Fr g L' h₁ (fun y => binds.reverse.lookup y) → News g L' h₁ T → (∀ p ∈ T, p.1 < L') →
      wpS (model PySem.Challenge.rw_pq0393_01.row.prog w) (A.deeper (envOf qual scope L' f cdv)) (execs body (envOf qual scope L' f cdv))
        (fun fl s' => LeaveC g (fun v _ s' => R (.ok (.ret v)) s') (match fl with | .ret v => v | _ => .none) s')
        (fun e s' => wpAny (model PySem.Challenge.rw_pq0393_01.row.prog w) (A.deeper (envOf qual scope L' f cdv)) (leaving (envOf qual scope L' f cdv) e) (fun _ s'' => R (.error e) s'') (fun e' s'' => R (.error e') s'') s')
        { s with heap := h₁, toks := s.toks + binds.length })
    (hco : scope.isCoroutine = false) (hgen : scope.isGenerator = false) (hk : scope.kind = .function)
    (hcell : ∀ x ∈ scope.names, x.2 ≠ .cell) : codeS (model PySem.Challenge.rw_pq0393_01.row.prog w) A (.call (.ref f) args) R s := by
  have Xs : (Mine.hd.heap_1 w.params).In s.heap := X.keeps hst
  refine codeS_call_def (fd := fnX name qual params body scope [] dV kV doc pm an cdv ct) (body := body) (binds := binds) hroom (Xs _ _ ho) rfl (Tp.nolimit.keeps hst) (codeRec_of Xs hcd) rfl hbind hcell hloc (fun h₁ hns hk₁ => ?_) hco hgen hk
  exact wpS_mono (h s.heap.objs.size h₁ ⟨hns, fun b o e => hk₁ b o (hst b o e), Nat.le_of_eq hsz⟩ (fun p hp => ⟨hk₁ _ _ (N p hp).1, Nat.ne_of_lt (Heap.lt_size (N p hp).1), (N p hp).2⟩) (fun p hp => Heap.lt_size (N p hp).1))
    (fun fl s' hl => by obtain ⟨_, _, _, _, _, r⟩ := hl; exact r) fun _ _ y => y

theorem useS {w : World} {d : Nat} {f : Addr} {args : List Value} {T : Led} {G : Heap → Prop} {Ok : Value → Led → Prop} {Er : Heap → Heap → List Env → Addr → Heap → Prop}
    {dp un : Nat} {gd : Option (List Code)} {env : Env} {outer : List Env} {A₀ : Around} {base h₀ : Heap} {L : Addr} {m : Str → Option Value} {news rest : Led} {s : Shared} {mean : ExcName → Option Value} {mg mb : Str → Option Value} {Q E : Value → Shared → Prop}
    (S : SSpec w d f args T G Ok Er) (B : Below A₀ base outer h₀) (F : Fr h₀ L s.heap m) (N : News h₀ L s.heap news) (X : (Mine.hd.heap_1 w.params).In h₀) (Tp : Top Mine.view (looseW Mine.view [Str.ofString "WORD", Str.ofString "MOST_WORDS"]) mean mg mb h₀)
    (hf : env.frame = some L) (hke : env.scope.kind = .function) (hd : dp + d < 990) (hu : un + 20 * d < 9800)
    (hT : ∀ p ∈ T, p ∈ news) (hR : ∀ p ∈ rest, p ∈ news) (hD : ∀ p ∈ rest, ∀ q ∈ T, p.1 ≠ q.1)
    (hG : ∀ g, (∀ b o, s.heap.get? b = some o → (∀ q ∈ T, b ≠ q.1) → g.get? b = some o) → G g)
    (h : ∀ v T' h' tk', Ok v T' → Fr h₀ L h' m → News h₀ L h' (T' ++ rest) → (∀ p ∈ T', ∀ q ∈ rest, p.1 ≠ q.1) → (∀ p ∈ T', p.1 ≠ L) → Q v { s with heap := h', toks := tk' })
    (hE : ∀ g e h' tk', (∀ b o, s.heap.get? b = some o → (∀ q ∈ T, b ≠ q.1) → g.get? b = some o) → (∀ b o, g.get? b = some o → s.heap.get? b = some o) → (∀ p ∈ rest, g.get? p.1 = some p.2) → Er base g (env :: outer) e h' → g.UpToSlots h' → E (.ref e) { s with heap := h', toks := tk' }) :
    wpS (model PySem.Challenge.rw_pq0393_01.row.prog w) (AA dp un gd (env :: outer)) (call (.ref f) args) Q E s := by
  have N₁ : News h₀ L s.heap T := fun p hp => N p (hT p hp)
  have nm : ∀ b o, h₀.get? b = some o → b ∉ T.map (·.1) := fun b o e q => by
    obtain ⟨p, hp, rfl⟩ := List.mem_map.mp q
    rw [(N₁ p hp).2.2] at e; cases e
  have hg : ∀ b o, s.heap.get? b = some o → (∀ q ∈ T, b ≠ q.1) → (hideAll s.heap (T.map (·.1))).get? b = some o := fun b o e hn => hideAll_get _ e fun q => by
    obtain ⟨p, hp, hq⟩ := List.mem_map.mp q
    exact hn p hp hq.symm
  obtain ⟨FG, BG, st, -⟩ := groundX (A := AA dp un gd (env :: outer)) (R := fun _ _ => True) B F N₁ rfl hf hke
  refine wpS_call (S dp un gd (env :: outer) base _ mean mg mb s _ BG (fun b o e => of_hideAll _ e) (hideAll_size _ _) (fun p hp => ⟨(N₁ p hp).1, hideAll_none _ (List.mem_map_of_mem hp)⟩) (X.keeps st) (Tp.keeps st) hd hu (hG _ hg) ?_ ?_)
  · intro v T' h' tk' ok sh nt
    obtain ⟨oL, es, ep, hL, hLd, hLk, hLf⟩ := F.ns
    have nL : ∀ q ∈ T, L ≠ q.1 := fun q hq e => (N₁ q hq).2.1 e.symm
    have hLg := hg L oL hL nL
    refine h v T' h' tk' ok ⟨⟨oL, es, ep, sh L oL hLg, hLd, hLk, hLf⟩, fun b o e => sh b o (st b o e), F.above⟩ ?_ ?_ ?_
    · intro p hp
      rcases List.mem_append.mp hp with hp | hp
      · refine ⟨(nt p hp).1, fun q => ?_, ?_⟩
        · have := (nt p hp).2; rw [q, hLg] at this; cases this
        · cases q : h₀.get? p.1 with
          | none => rfl
          | some o => have := (nt p hp).2; rw [st _ _ q] at this; cases this
      · have z := N p (hR p hp)
        exact ⟨sh _ _ (hg _ _ z.1 fun q hq => hD p hp q hq), z.2⟩
    · intro p hp q hq e
      have := (nt p hp).2
      rw [e, hg _ _ (N q (hR q hq)).1 (fun r hr => hD q hq r hr)] at this; cases this
    · intro p hp e
      have := (nt p hp).2
      rw [e, hLg] at this; cases this
  · intro e h' tk' er up
    exact hE _ e h' tk' hg (fun b o e => of_hideAll _ e) (fun p hp => hg _ _ (N p (hR p hp)).1 fun q hq => hD p hp q hq) er up

theorem enterSB {w : World} {A : Around} {outer : List Env} {base g : Heap} {s : Shared} {R : Result → Shared → Prop} {T : Led} {mean : ExcName → Option Value} {mg mb : Str → Option Value}
    {name qual : Str} {params : Arguments} {body : List Stmt} {scope : Scope} {dV kV doc pm cdv ct oc : Value} {an od : Option Addr} {osl : Array (Option Value)} {f : Addr} {args : Args} {binds : List (Str × Value)}
    (_hb : Binds binds)
    (B : Below A base outer g) (hst : g.StaysIn s.heap) (hsz : g.objs.size = s.heap.objs.size) (N : ∀ p ∈ T, s.heap.get? p.1 = some p.2 ∧ g.get? p.1 = none) (X : (Mine.hd.heap_1 w.params).In g) (Tp : Top Mine.view (looseW Mine.view [Str.ofString "WORD", Str.ofString "MOST_WORDS"]) mean mg mb g)
    (ho : (Mine.hd.heap_1 w.params).lookup f = some ⟨oc, od, .func (fnOf name qual params body scope dV kV doc pm an cdv ct), osl⟩) (hcd : codeIn (Mine.hd.heap_1 w.params) cdv qual = true) (hroom : A.depth < recursionLimit)
    (hbind : BindsTo s (fnOf name qual params body scope dV kV doc pm an cdv ct) args binds) (hloc : ∀ y ∈ binds, scope.names.lookup y.1 = some .local)
    (h : ∀ L' h₁, Fr g L' h₁ (fun y => binds.reverse.lookup y) → News g L' h₁ T → (∀ p ∈ T, p.1 < L') →
      wpS (model PySem.Challenge.rw_pq0393_01.row.prog w) (A.deeper (envOf qual scope L' f cdv)) (execs body (envOf qual scope L' f cdv))
        (fun fl s' => LeaveC g (fun v _ s' => R (.ok (.ret v)) s') (match fl with | .ret v => v | _ => .none) s')
        (fun e s' => wpAny (model PySem.Challenge.rw_pq0393_01.row.prog w) (A.deeper (envOf qual scope L' f cdv)) (leaving (envOf qual scope L' f cdv) e) (fun _ s'' => R (.error e) s'') (fun e' s'' => R (.error e') s'') s')
        { s with heap := h₁, toks := s.toks + binds.length })
    (hco : scope.isCoroutine = false) (hgen : scope.isGenerator = false) (hk : scope.kind = .function)
    (hcell : ∀ x ∈ scope.names, x.2 ≠ .cell) : codeS (model PySem.Challenge.rw_pq0393_01.row.prog w) A (.call (.ref f) args) R s :=
  enterS B hst hsz N X Tp ho hcd hroom hbind hloc h hco hgen hk hcell

theorem useST {w : World} {d : Nat} {f : Addr} {args : List Value} {T : Led} {G : Heap → Prop} {Ok : Value → Led → Prop} {Er : Heap → Heap → List Env → Addr → Heap → Prop}
    {dp un : Nat} {gd : Option (List Code)} {env : Env} {outer : List Env} {A₀ : Around} {base h₀ : Heap} {L : Addr} {m : Str → Option Value} {news rest : Led} {s : Shared} {mean : ExcName → Option Value} {mg mb : Str → Option Value} {Q E : Value → Shared → Prop}
    (S : SSpec w d f args T G Ok Er) (tk : Take T news rest) (B : Below A₀ base outer h₀) (F : Fr h₀ L s.heap m) (N : News h₀ L s.heap news) (X : (Mine.hd.heap_1 w.params).In h₀) (Tp : Top Mine.view (looseW Mine.view [Str.ofString "WORD", Str.ofString "MOST_WORDS"]) mean mg mb h₀)
    (hf : env.frame = some L) (hke : env.scope.kind = .function) (hd : dp + d < 990) (hu : un + 20 * d < 9800)
    (hG : ∀ g, (∀ b o, s.heap.get? b = some o → (∀ q ∈ T, b ≠ q.1) → g.get? b = some o) → G g)
    (h : ∀ v T' h' tk', Ok v T' → Fr h₀ L h' m → News h₀ L h' (T' ++ rest) → (∀ p ∈ T', ∀ q ∈ rest, p.1 ≠ q.1) → (∀ p ∈ T', p.1 ≠ L) → Q v { s with heap := h', toks := tk' })
    (hE : ∀ g e h' tk', (∀ b o, s.heap.get? b = some o → (∀ q ∈ T, b ≠ q.1) → g.get? b = some o) → (∀ b o, g.get? b = some o → s.heap.get? b = some o) → (∀ p ∈ rest, g.get? p.1 = some p.2) → Er base g (env :: outer) e h' → g.UpToSlots h' → E (.ref e) { s with heap := h', toks := tk' }) :
    wpS (model PySem.Challenge.rw_pq0393_01.row.prog w) (AA dp un gd (env :: outer)) (call (.ref f) args) Q E s :=
  useS S B F N X Tp hf hke hd hu tk.spec.1 (fun p hp => (tk.spec.2 p hp).1) (fun p hp => (tk.spec.2 p hp).2) hG h hE

theorem CSpec.S {w : World} {d : Nat} {f : Addr} {args : List Value} {T : Led} {G : Heap → Prop} {Ok : Value → Led → Prop} {Er : Heap → Heap → List Env → Addr → Heap → Prop} (h : CSpec w d f args T G Ok Er) : SSpec w d f args T G Ok Er :=
  fun dp un gd outer base g mean mg mb s R a b c d e f i j k l m => codeS_any (h dp un gd outer base g mean mg mb s R a b c d e f i j k l m)
theorem words_13 : True := by
  k_with "mine enterS" => (k_dflt (refine' enterSB ?w36k0 ?w36k1 ?w36k2 ?w36k3 ?w36k4 ?w36k5 ?w36k6 ?w36k7 ?w36k8 ?w36k9 ?w36kb ?w36kl ?_ ?w36c1 ?w36c2 ?w36c3 ?w36c4; (case w36k0 => assumption); (case w36k1 => assumption); (case w36k2 => assumption); (case w36k3 => assumption); (case w36k4 => assumption); (case w36k5 => assumption); (case w36k6 => assumption); (case w36k7 => k_is); (case w36k8 => k_is); (case w36k9 => ktr_room); (case w36kb => exact BindsTo.of_eq rfl); (case w36kl => exact locs rfl); (case w36c1 => exact rfl); (case w36c2 => exact rfl); (case w36c3 => exact rfl); (case w36c4 => decide); k_whole; intro zqL' zqh' zqF' zqN' zql1; (try k_lt zql1); (revert zqL' zqh' zqF' zqN' zql1); intros; (try dsimp only); (try k_fold)))
  trivial
theorem useScore {w : World} {d : Nat} {f : Addr} {args : List Value} {T : Led} {G : Heap → Prop} {Ok : Value → Led → Prop} {Er : Heap → Heap → List Env → Addr → Heap → Prop}
    {dp un : Nat} {gd : Option (List Code)} {env : Env} {outer : List Env} {A₀ : Around} {base h₀ : Heap} {L : Addr} {m : Str → Option Value} {news rest : Led} {s : Shared} {mean : ExcName → Option Value} {mg mb : Str → Option Value} {R : Result → Shared → Prop}
    (S : SSpec w d f args T G Ok Er) (B : Below A₀ base outer h₀) (F : Fr h₀ L s.heap m) (N : News h₀ L s.heap news) (X : (Mine.hd.heap_1 w.params).In h₀) (Tp : Top Mine.view (looseW Mine.view [Str.ofString "WORD", Str.ofString "MOST_WORDS"]) mean mg mb h₀)
    (hf : env.frame = some L) (hke : env.scope.kind = .function) (hd : dp + d < 990) (hu : un + 20 * d < 9800)
    (hT : ∀ p ∈ T, p ∈ news) (hR : ∀ p ∈ rest, p ∈ news) (hD : ∀ p ∈ rest, ∀ q ∈ T, p.1 ≠ q.1)
    (hG : ∀ g, (∀ b o, s.heap.get? b = some o → (∀ q ∈ T, b ≠ q.1) → g.get? b = some o) → G g)
    (h : ∀ v T' h' tk', Ok v T' → Fr h₀ L h' m → News h₀ L h' (T' ++ rest) → (∀ p ∈ T', ∀ q ∈ rest, p.1 ≠ q.1) → (∀ p ∈ T', p.1 ≠ L) → R (.ok (.ret v)) { s with heap := h', toks := tk' })
    (hE : ∀ g e h' tk', (∀ b o, s.heap.get? b = some o → (∀ q ∈ T, b ≠ q.1) → g.get? b = some o) → (∀ b o, g.get? b = some o → s.heap.get? b = some o) → (∀ p ∈ rest, g.get? p.1 = some p.2) → Er base g (env :: outer) e h' → g.UpToSlots h' → R (.error (.ref e)) { s with heap := h', toks := tk' }) :
    codeS (model PySem.Challenge.rw_pq0393_01.row.prog w) (AA dp un gd (env :: outer)) (.call (.ref f) ⟨args, []⟩) R s := by
  have N₁ : News h₀ L s.heap T := fun p hp => N p (hT p hp)
  have nm : ∀ b o, h₀.get? b = some o → b ∉ T.map (·.1) := fun b o e q => by
    obtain ⟨p, hp, rfl⟩ := List.mem_map.mp q
    rw [(N₁ p hp).2.2] at e; cases e
  have hg : ∀ b o, s.heap.get? b = some o → (∀ q ∈ T, b ≠ q.1) → (hideAll s.heap (T.map (·.1))).get? b = some o := fun b o e hn => hideAll_get _ e fun q => by
    obtain ⟨p, hp, hq⟩ := List.mem_map.mp q
    exact hn p hp hq.symm
  obtain ⟨FG, BG, st, -⟩ := groundX (A := AA dp un gd (env :: outer)) (R := fun _ _ => True) B F N₁ rfl hf hke
  refine (S dp un gd (env :: outer) base _ mean mg mb s _ BG (fun b o e => of_hideAll _ e) (hideAll_size _ _) (fun p hp => ⟨(N₁ p hp).1, hideAll_none _ (List.mem_map_of_mem hp)⟩) (X.keeps st) (Tp.keeps st) hd hu (hG _ hg) ?_ ?_)
  · intro v T' h' tk' ok sh nt
    obtain ⟨oL, es, ep, hL, hLd, hLk, hLf⟩ := F.ns
    have nL : ∀ q ∈ T, L ≠ q.1 := fun q hq e => (N₁ q hq).2.1 e.symm
    have hLg := hg L oL hL nL
    refine h v T' h' tk' ok ⟨⟨oL, es, ep, sh L oL hLg, hLd, hLk, hLf⟩, fun b o e => sh b o (st b o e), F.above⟩ ?_ ?_ ?_
    · intro p hp
      rcases List.mem_append.mp hp with hp | hp
      · refine ⟨(nt p hp).1, fun q => ?_, ?_⟩
        · have := (nt p hp).2; rw [q, hLg] at this; cases this
        · cases q : h₀.get? p.1 with
          | none => rfl
          | some o => have := (nt p hp).2; rw [st _ _ q] at this; cases this
      · have z := N p (hR p hp)
        exact ⟨sh _ _ (hg _ _ z.1 fun q hq => hD p hp q hq), z.2⟩
    · intro p hp q hq e
      have := (nt p hp).2
      rw [e, hg _ _ (N q (hR q hq)).1 (fun r hr => hD q hq r hr)] at this; cases this
    · intro p hp e
      have := (nt p hp).2
      rw [e, hLg] at this; cases this
  · intro e h' tk' er up
    exact hE _ e h' tk' hg (fun b o e => of_hideAll _ e) (fun p hp => hg _ _ (N p (hR p hp)).1 fun q hq => hD p hp q hq) er up


section
variable {prog : Program} {w : World} {A : Around} {C : Addr} {R : Result → Shared → Prop} {h : Heap} {g : Array GenState} {d : Drawn} {t : Nat} {os : OsState}
theorem codeS_call_builtin_at {s : Shared} {id : String} {args : Args} {b : Builtin} (hq : (Code.builtin id args).quiet = true) (hb : entryFor table id = some b) (hn : exportIds.contains id = false)
    (h : wpAny (model prog w) A.in1 (checkBuiltinCall id args) (fun _ s₁ => wpS (model prog w) (A.under (.builtin id args)) (b args)
      (fun fin s' => match fin with | .done f => R (.ok f) s' | .again c' => c'.quiet = true ∧ codeS (model prog w) A c' R s') (fun e s' => R (.error e) s') s₁)
      (fun e s' => R (.error e) s') s) : codeS (model prog w) A (.call (.builtin id) args) R s := by
  refine codeS_of_tree rfl ?_
  show wpS _ A.in1 (do checkBuiltinCall id args; again (.builtin id args)) _ _ s
  exact wpS_bind (wpS_any (wpAny_mono h (fun _ s₁ h₁ => wpS_pure (And.intro hq (codeS_builtin hb hn h₁))) fun _ _ h' => h'))
theorem make_S {rest : List Value} {kw : List (PySem.Str × Value)} {init : Value} (Y : Makes (model prog w) h C) (hi : Looks (model prog w) h (typeLookup (.ref C) "__init__") (some init))
    (hb : ∀ self, Looks (model prog w) h (bindSpecial init self) (init, [self])) (hne : (some init != some (Value.builtin "object.__init__")) = true ∨ (rest = [] ∧ kw = []))
    (hq : codeS (model prog w) (A.under (.builtin "type.__call__" ⟨.ref C :: rest, kw⟩)) (.call init ⟨.ref (h.objs.size + 1) :: rest, kw⟩) (InitBack (h.objs.size + 1) R) ⟨(h.push emptyDict).push (instObj C h.objs.size), g, d, t, os⟩) :
    codeS (model prog w) A (.call (.ref C) ⟨rest, kw⟩) R ⟨h, g, d, t, os⟩ := by
  have Y' := Y
  obtain ⟨⟨oc, od, cd, sl, hC, e1, e2, e4⟩, made, base, self, top, call, typ⟩ := Y
  refine codeS_of_tree rfl ?_
  show wpS _ _ (callAny (.ref C) _) _ _ _
  refine wpS_any ?_
  refine nd_load hC ?_
  show wpAny _ _ (callAny.viaDunder (.ref C) _) _ _ _
  unfold callAny.viaDunder
  refine wpAny_bind (call.at ?_)
  dsimp only
  rw [tc_bind]
  refine wpAny_bind (wpAny_pure (wpAny_bind (wpAny_pure ?_)))
  refine wpAny_pure (a := Fin.again (.call (.builtin "type.__call__") ⟨.ref C :: rest, kw⟩)) (And.intro rfl ?_)
  refine codeS_call_builtin_at (Code.quiet_builtin _ (by decide +kernel)) entry_typeCall (by decide +kernel) (check_slot tc_kind tc_split typ (tc_args _ _ _) ?_)
  unfold Builtin.«type.__call__»
  have hm : Looks (model prog w) h (mroOf (.ref C)) cd.mro := ((Looks.ld (part := none) hC).andThen .now).andThen .now
  dsimp only
  rw [if_neg (show ¬ ((Value.ref C == Value.type "type") = true) from Bool.false_ne_true)]
  refine wpS_bind (wpS_any (hm.at ?_))
  simp only [e4, Bool.false_eq_true, if_false]
  refine wpS_bind (wpS_any (made.at ?_))
  dsimp only
  refine wpS_bind (wpS_pure ?_)
  refine wpS_bind (wpS_holding (wpS_any (wpAny_call ?_)))
  refine new_K Y' hi hne ?_
  have k : ∀ b o, h.get? b = some o → ((h.push emptyDict).push (instObj C h.objs.size)).get? b = some o := fun b o e => Heap.get?_push_of_some _ (Heap.get?_push_of_some _ e)
  have hx : ((h.push emptyDict).push (instObj C h.objs.size)).get? (h.objs.size + 1) = some (instObj C h.objs.size) := by heap_get
  have t1 : Looks (model prog w) ((h.push emptyDict).push (instObj C h.objs.size)) (typeOf (.ref (h.objs.size + 1))) (.ref C) := (Looks.ld hx).andThen .now
  have s1 := self.keeps k
  have i1 := hi.keeps k
  have b1 := (hb (.ref (h.objs.size + 1))).keeps k
  dsimp only
  have ti : Looks (model prog w) ((h.push emptyDict).push (instObj C h.objs.size)) (isInstance (.ref (h.objs.size + 1)) (.ref C)) true := t1.andThen s1
  refine wpS_bind (wpS_any (ti.at ?_))
  simp only [Bool.not_true, Bool.false_eq_true, if_false]
  refine wpS_bind (wpS_holding ?_)
  unfold callSpecial? specialOf
  have tl : Looks (model prog w) ((h.push emptyDict).push (instObj C h.objs.size)) (typeOf (.ref (h.objs.size + 1)) >>= fun t => typeLookup t "__init__") (some init) := t1.andThen i1
  refine wpS_bind (wpS_any (tl.at ?_))
  dsimp only
  refine wpS_holding (wpS_bind (wpS_any (b1.at ?_)))
  dsimp only
  refine wpS_bind (wpS_call (codeS_mono hq fun r s' z => ?_))
  rcases r with e | (v | _ | _ | _) <;> first | exact z | exact z.elim | skip
  obtain ⟨rfl, z⟩ := z
  exact wpS_pure (wpS_pure z)
end
theorem under_mk {dp un : Nat} {gd : Option (List Code)} {outer : List Env} {C : Addr} {rest : List Value} : (AA dp un gd outer).under (.builtin "type.__call__" ⟨.ref C :: rest, []⟩) = AA (dp + 1) (un + 1) gd outer := by
  first
    | rfl
    | (cases gd <;> rfl)
    | (simp only [Around.under, AA]; cases gd <;> rfl)
/-- an object made by a class of the text's, its __init__ under contract -/
theorem useMake {w : World} {d : Nat} {C fI : Addr} {rest : List Value} {T : Led} {G : Addr → Addr → Heap → Prop} {Ok : Addr → Addr → Value → Led → Prop}
    {dp un : Nat} {gd : Option (List Code)} {env : Env} {outer : List Env} {A₀ : Around} {base h₀ : Heap} {L : Addr} {m : PySem.Str → Option Value} {news left : Led} {s : Shared} {mean : ExcName → Option Value} {mg mb : PySem.Str → Option Value} {Q E : Value → Shared → Prop}
    (S : ∀ x dx, (∀ p ∈ T, @Ne Nat p.1 x) → (∀ p ∈ T, @Ne Nat p.1 dx) → @Ne Nat dx x → SSpec w d fI (.ref x :: rest) ((x, instObj C dx) :: (dx, emptyDict) :: T) (G x dx) (Ok x dx) (fun _ _ _ _ _ => False)) (tk : Take T news left)
    (hv : ∀ x dx v T', Ok x dx v T' → v = .none)
    (B : Below A₀ base outer h₀) (F : Fr h₀ L s.heap m) (N : News h₀ L s.heap news) (X : (Mine.hd.heap_1 w.params).In h₀) (Tp : Top Mine.view (looseW Mine.view [Str.ofString "WORD", Str.ofString "MOST_WORDS"]) mean mg mb h₀)
    (hm : makesIn (Mine.hd.heap_1 w.params) C = true) (hi : findIn (Mine.hd.heap_1 w.params) (.ref C) "__init__" = some (some (.ref fI))) (hfn : typeIn (Mine.hd.heap_1 w.params) (.ref fI) = some (.type "function"))
    (hf : env.frame = some L) (hke : env.scope.kind = .function) (hd : dp + 1 + d < 990) (hu : un + 1 + 20 * d < 9800)
    (hG : ∀ x dx g, (∀ b o, s.heap.get? b = some o → (∀ q ∈ T, b ≠ q.1) → g.get? b = some o) → G x dx g)
    (h : ∀ x dx v T' h' tk', Ok x dx v T' → Fr h₀ L h' m → News h₀ L h' (T' ++ left) → (∀ p ∈ T', ∀ q ∈ left, p.1 ≠ q.1) → (∀ p ∈ T', p.1 ≠ L) → Q (.ref x) { s with heap := h', toks := tk' }) :
    wpS (model PySem.Challenge.rw_pq0393_01.row.prog w) (AA dp un gd (env :: outer)) (call (.ref C) rest) Q E s := by
  obtain ⟨hh, g, dr, t, os⟩ := s
  have XS := X.keeps F.keep
  refine wpS_call (make_S (makes_of XS hm) (looks_findIn XS hi) (fun self => bind_fn XS self hfn) (.inl rfl) ?_)
  rw [under_mk]
  have N' := (N.push F emptyDict).push (F.push _) (instObj C hh.objs.size)
  rw [Heap.size_push] at N'
  have off1 : ∀ p ∈ news, @Ne Nat p.1 hh.objs.size := fun p hp e => absurd (Heap.lt_size (N p hp).1) (by rw [e]; exact Nat.lt_irrefl _)
  have off2 : ∀ p ∈ news, @Ne Nat p.1 (hh.objs.size + 1) := fun p hp e => absurd (Heap.lt_size (N p hp).1) (by rw [e]; exact Nat.not_lt.mpr (Nat.le_succ _))
  have hT := tk.spec.1
  have hL := tk.spec.2
  have nx : @Ne Nat hh.objs.size (hh.objs.size + 1) := Nat.ne_of_lt (Nat.lt_succ_self _)
  refine useScore (news := (hh.objs.size + 1, instObj C hh.objs.size) :: (hh.objs.size, emptyDict) :: news) (rest := left) (S (hh.objs.size + 1) hh.objs.size (fun p hp => off2 p (hT p hp)) (fun p hp => off1 p (hT p hp)) nx) B ((F.push _).push _) N' X Tp hf hke hd hu ?_ ?_ ?_ ?_ ?_ ?_
  · intro p hp
    rcases List.mem_cons.mp hp with rfl | hp
    · exact .head _
    · rcases List.mem_cons.mp hp with rfl | hp
      · exact .tail _ (.head _)
      · exact .tail _ (.tail _ (hT p hp))
  · exact fun p hp => .tail _ (.tail _ (hL p hp).1)
  · intro p hp q hq
    rcases List.mem_cons.mp hq with rfl | hq
    · exact off2 p (hL p hp).1
    · rcases List.mem_cons.mp hq with rfl | hq
      · exact off1 p (hL p hp).1
      · exact (hL p hp).2 q hq
  · intro g2 hk
    refine hG _ _ _ fun b o e hn => hk b o (Heap.get?_push_of_some _ (Heap.get?_push_of_some _ e)) fun q hq => ?_
    have lt := Heap.lt_size e
    rcases List.mem_cons.mp hq with rfl | hq
    · exact fun x => absurd lt (by show ¬ b < hh.objs.size; rw [x]; exact Nat.not_lt.mpr (Nat.le_succ _))
    · rcases List.mem_cons.mp hq with rfl | hq
      · exact fun x => absurd lt (by show ¬ b < hh.objs.size; rw [x]; exact Nat.lt_irrefl _)
      · exact hn q hq
  · intro v T' h' tk' ok F' N2 d1 d2
    have e := hv _ _ _ _ ok
    subst e
    exact ⟨rfl, h _ _ _ _ _ _ ok F' N2 d1 d2⟩
  · exact fun _ _ _ _ _ _ _ er _ => er.elim
/-- who keeps the things at a call of f -/
noncomputable def KeepsF (K : Frag) (f : Value) : Prop := ∀ (M : Model) (h : Heap), K.In h → ∃ k, (k = Keeper.frame ∨ k = Keeper.machine ∨ k = Keeper.boundFrame) ∧ Looks M h (keeperOf f) k
theorem KeepsF.of {K : Frag} {f : Value} (hk : keepIn K f = true) : KeepsF K f := fun _ h X => keeps_K hk h X
theorem KeepsF.type {K : Frag} {T : String} : KeepsF K (.type T) := fun _ _ _ => ⟨.machine, .inr (.inl rfl), Looks.of_pure rfl⟩
theorem KeepsF.builtin {K : Frag} {id : String} : KeepsF K (.builtin id) := fun _ _ _ => ⟨.machine, .inr (.inl rfl), Looks.of_pure rfl⟩
section
variable {M : Model} {A : Around} {E : Value → Shared → Prop} {s : Shared} {env : Env} {K : Frag}
theorem S_Call0 {func : PySem.Expr} {pos : Pos} {Q : Value → Shared → Prop}
    (h : wpAny M A (eval func env) (fun f s₁ => (KeepsF K f ∧ K.In s₁.heap) ∧ wpS M A (call f []) Q E s₁) E s)
    (he : eval (.Call func [] [] pos) env = (do callWith pos (← eval func env) [] (backTo pos (starEach [] env)) (backToKw pos (keywordEach [] env))) := by rfl) :
    wpS M A (eval (.Call func [] [] pos) env) Q E s := by
  rw [he]
  refine wpS_bind (wpS_any (wpAny_mono h (fun f s₁ h₁ => ?_) fun _ _ x => x))
  exact S_callX (args := []) (keywords := []) (P := K.In) rfl (h₁.1.1 M) (S_args0 ⟨h₁.1.2, h₁.2⟩)
theorem S_Call1 {func e : PySem.Expr} {rest : List PySem.Expr} {pos : Pos} {Q : Value → Shared → Prop}
    (h : wpAny M A (eval func env) (fun f s₁ => KeepsF K f ∧ wpAny M A (spliced (backTo pos (starEach (e :: rest) env))) (fun vs s₂ => K.In s₂.heap ∧ wpS M A (call f vs) Q E s₂) E s₁) E s)
    (he : eval (.Call func (e :: rest) [] pos) env = (do callWith pos (← eval func env) [] (backTo pos (starEach (e :: rest) env)) (backToKw pos (keywordEach [] env))) := by rfl)
    (hs : starEach (e :: rest) env = (false, eval e env) :: starEach rest env := by rfl) (hplain : (backTo pos (starEach rest env)).any (·.1) = false := by rfl) :
    wpS M A (eval (.Call func (e :: rest) [] pos) env) Q E s := by
  rw [he]
  refine wpS_bind (wpS_any (wpAny_mono h (fun f s₁ h₁ => ?_) fun _ _ x => x))
  rw [hs] at h₁ ⊢
  exact S_callX (keywords := []) (P := K.In) (by show (((false || (backTo pos (starEach rest env)).any (·.1))) || false) = false; rw [hplain]; rfl) (h₁.1 M) (S_args (wpS_any h₁.2))
theorem S_CallS {func e : PySem.Expr} {pos : Pos} {Q : Value → Shared → Prop}
    (h : wpAny M A (eval func env) (fun f s₁ => KeepsF K f ∧ wpS M A (eval e env) (fun v s₂ => K.In s₂.heap ∧ wpS M A (call f [v]) Q E s₂) E s₁) E s)
    (he : eval (.Call func [e] [] pos) env = (do callWith pos (← eval func env) [] (backTo pos (starEach [e] env)) (backToKw pos (keywordEach [] env))) := by rfl)
    (hs : starEach [e] env = [(false, eval e env)] := by rfl) :
    wpS M A (eval (.Call func [e] [] pos) env) Q E s := by
  rw [he]
  refine wpS_bind (wpS_any (wpAny_mono h (fun f s₁ h₁ => ?_) fun _ _ x => x))
  rw [hs]
  exact S_callX (keywords := []) (P := K.In) rfl (h₁.1 M) (S_args (S_one h₁.2))
theorem S_Meth1 {o e : PySem.Expr} {rest : List PySem.Expr} {name : PySem.Str} {apos pos : Pos} {pl : Sem Bool} {Q : Value → Shared → Prop}
    (h : wpAny M A (eval o env) (fun ov s₁ => wpAny M A (getMethod ov name pl) (fun fx s₂ => KeepsF K fx.1 ∧ wpAny M A (spliced (backTo pos (starEach (e :: rest) env))) (fun vs s₃ => K.In s₃.heap ∧ wpS M A (call fx.1 (fx.2 ++ vs)) Q E s₃) E s₂) E s₁) E s)
    (he : eval (.Call (.Attribute o name apos) (e :: rest) [] pos) env = (do
      let ov ← eval o env
      standAt apos.atName
      let (f, first) ← holding [ov] (getMethod ov name pl)
      callWith pos f first (backTo pos (starEach (e :: rest) env)) []) := by rfl)
    (hs : starEach (e :: rest) env = (false, eval e env) :: starEach rest env := by rfl) (hplain : (backTo pos (starEach rest env)).any (·.1) = false := by rfl) :
    wpS M A (eval (.Call (.Attribute o name apos) (e :: rest) [] pos) env) Q E s := by
  rw [he]
  refine wpS_bind (wpS_any (wpAny_mono h (fun ov s₁ h₁ => wpS_bind (wpS_standAt (wpS_bind (wpS_holding (wpS_any (wpAny_mono h₁ (fun fx s₂ h₂ => ?_) fun _ _ x => x)))))) fun _ _ x => x))
  rw [hs] at h₂ ⊢
  exact S_callX (keywords := []) (P := K.In) (by show (((false || (backTo pos (starEach rest env)).any (·.1))) || false) = false; rw [hplain]; rfl) (h₂.1 M) (S_args (wpS_any h₂.2))
theorem and_in {w : World} {g h : Heap} {L : Addr} {m : PySem.Str → Option Value} {P : Prop} (X : (Mine.hd.heap_1 w.params).In g) (F : Fr g L h m) (p : P) : (Mine.hd.heap_1 w.params).In h ∧ P := ⟨X.keeps F.keep, p⟩
theorem and_in2 {w : World} {g h : Heap} {L : Addr} {m : PySem.Str → Option Value} {f : Value} {P : Prop} (X : (Mine.hd.heap_1 w.params).In g) (F : Fr g L h m) (hk : KeepsF (Mine.hd.heap_1 w.params) f) (p : P) : (KeepsF (Mine.hd.heap_1 w.params) f ∧ (Mine.hd.heap_1 w.params).In h) ∧ P := ⟨⟨hk, X.keeps F.keep⟩, p⟩
end
theorem words_15 : True := by
  k_with "mine and" => first | ((with_reducible show (Frag.In _ _) ∧ _); refine' and_in ?w37a ?w37b ?_; (case w37a => assumption); (case w37b => (try dsimp only); k_asm)) | ((with_reducible show (KeepsF _ _ ∧ _) ∧ _); refine' and_in2 ?w37a ?w37b ?w37c ?_; (case w37a => assumption); (case w37b => (try dsimp only); k_asm); (case w37c => first | exact KeepsF.type | exact KeepsF.builtin | (refine' KeepsF.of ?w37d; (case w37d => first | exact rfl | k_is)))) | ((with_reducible show (KeepsF _ _) ∧ _); refine' And.intro ?w37c ?_; (case w37c => first | exact KeepsF.type | exact KeepsF.builtin | (refine' KeepsF.of ?w37d; (case w37d => first | exact rfl | k_is))))
  k_with "mine stepsS" => (repeat' ((fail_if_success (walk_at "mine stop")); (fail_if_success (with_reducible show wpS _ _ _ _ _ _)); first | walk_at "mine and" | (k_unfold; (try dsimp only)) | (k_end; wrow_close) | walk1 | (dsimp only; walk1) | (leave1; walk_say "STEP leave1"; try dsimp only) | fail "no step"))
  trivial
section
variable {prog : Program} {w : World} {A : Around} {E : Value → Shared → Prop} {s : Shared}
theorem by_noint : typeLookup (.type "bytes") "__int__" = pure none := by rw [typeLookup_type, builtinLookup_eq_fast]; kernel_rfl
theorem by_nofloat : typeLookup (.type "bytes") "__float__" = pure none := by rw [typeLookup_type, builtinLookup_eq_fast]; kernel_rfl
theorem by_notba : isSubtype (.type "bytes") (.type "bytearray") = pure false := by rw [isSubtype_type]; kernel_rfl
theorem by_notcx : isSubtype (.type "bytes") (.type "complex") = pure false := by rw [isSubtype_type]; kernel_rfl
theorem by_asStr {b : Array UInt8} {t : Tok} : asStr? (.bytes b t) = pure none := by first | rfl | kernel_rfl
theorem add_toNat {p : Int} {c : Nat} (h : 0 ≤ p) : (p + (c : Int)).toNat = p.toNat + c := by
  obtain ⟨P, rfl⟩ := Int.eq_ofNat_of_zero_le h
  rfl
theorem bounds_in {lo hi : Int} {n : Nat} (h0 : 0 ≤ lo) (h1 : lo ≤ hi) (h2 : hi ≤ n) : sliceBounds (some lo) (some hi) none n = (lo, hi, 1) := by
  unfold sliceBounds
  simp only [Option.getD_none, gt_iff_lt, Int.reduceLT, if_true]
  rw [if_neg (Int.not_lt.mpr h0), if_neg (Int.not_lt.mpr (Int.le_trans h0 h1)), Int.min_eq_left (Int.le_trans h1 h2), Int.max_eq_right h0, Int.min_eq_left h2, Int.max_eq_right (Int.le_trans h0 h1)]
noncomputable def baPut (b c : Array UInt8) (lo hi : Nat) : Array UInt8 := b.extract 0 lo ++ c ++ b.extract hi b.size
theorem baPut_size {b c : Array UInt8} {lo hi : Nat} (h1 : hi = lo + c.size) (h2 : hi ≤ b.size) : (baPut b c lo hi).size = b.size := by
  subst h1
  unfold baPut
  rw [Array.size_append, Array.size_append, Array.size_extract, Array.size_extract, Nat.min_eq_left (Nat.le_trans (Nat.le_add_right _ _) h2), Nat.sub_zero, Nat.min_self, Nat.add_sub_cancel' h2]
theorem ba_setslice {a sl : Addr} {b c : Array UInt8} {t : Tok} {l u : Value} {lo hi : Int} {Q : Unit → Shared → Prop} (h : s.heap.get? a = some (baObj b)) (hl : IsPart l (some lo)) (hu : IsPart u (some hi)) (hS : s.heap.IsSliceOf sl l u .none)
    (h0 : 0 ≤ lo) (h1 : hi = lo + c.size) (h2 : hi ≤ b.size) (hz : b.size ≤ sizeLine)
    (hQ : Q () { s with heap := (((s.heap.push { cls := .type "bytearray", data := .bytearray #[] }).update s.heap.objs.size (Obj.mapBytearray fun _ => #[])).update s.heap.objs.size (Obj.mapBytearray fun _ => c)).update a (Obj.mapBytearray fun b => baPut b c lo.toNat hi.toNat) }) :
    wpS (model prog w) A (setItem (.ref a) (.ref sl) (.bytes c t)) Q E s := by
  have hT := ba_type h
  have hTs : s.TypeIs (.ref sl) "slice" := let ⟨o, ho, hc, _⟩ := hS; ⟨o, ho, hc⟩
  have hby := PySem.W.typeIs_bytes s c t
  unfold setItem
  refine wpS_holding (wpS_bind (wpS_any (wpAny_sequenceKey hT (by decide) ?_)))
  refine wpS_bind ?_
  simp only [callSpecial?]
  refine wpS_bind (wpS_any (wpAny_specialOf hT ba_slot_setitem.lookup ?_))
  simp only [ba_slot_setitem.bind]
  refine wpS_holding (wpS_bind (wpS_pure (wpS_bind (wpS_call_entry ba_slot_setitem hT ba_entry_setitem (by decide +kernel) ?_ (ba_args_setitem _ _ _)))))
  unfold Builtin.«bytearray.__setitem__»
  simp only [List.isEmpty_nil, Bool.not_true, Bool.false_eq_true, if_false]
  refine wpS_bind (wpS_any (ba_notIndex hS ?_))
  dsimp only
  refine wpS_bind (wpS_any (wpAny_typeOf hTs ?_))
  rw [if_neg (show ¬ ((Value.type "slice" != Value.type "slice") = true) from by simp)]
  refine wpS_bind (wpS_any (ba_sliceParts hl hu hS ?_))
  rw [if_neg (show ¬ (Builtin.Bytes.sameRef (Value.ref a) (Value.bytes c t) = true) from Bool.false_ne_true)]
  refine wpS_bind (wpS_any (wpAny_isInstance hby by_notba ?_))
  simp only [Bool.not_false, if_true]
  have hnum : ((do let r ← specialOf (Value.bytes c t) (Str.ofString "__index__"); pure r.isSome) <||> ((do let r ← specialOf (Value.bytes c t) (Str.ofString "__int__"); pure r.isSome) <||> ((do let r ← specialOf (Value.bytes c t) (Str.ofString "__float__"); pure r.isSome) <||> isInstance (Value.bytes c t) (Value.type "complex"))) : Sem Bool) = pure false := by
    rw [KBy.special_eq by_index, KBy.special_eq by_noint, KBy.special_eq by_nofloat]
    have e : isInstance (Value.bytes c t) (Value.type "complex") = isSubtype (.type "bytes") (.type "complex") := rfl
    rw [e, by_notcx]
    rfl
  refine wpS_bind (wpS_of_eq hnum ?_)
  refine wpS_bind (wpS_of_eq by_asStr ?_)
  simp only [Bool.false_or, Option.isSome_none, Bool.false_eq_true, if_false]
  refine wpS_bind (wpS_any (wpAny_rule ?_))
  have hcz : c.size ≤ sizeLine := by omega
  refine wpS_bind (call_ba1 hcz ?_)
  have ha := Heap.lt_size h
  have hsl : sl < s.heap.objs.size := let ⟨_, ho, _, _⟩ := hS; Heap.lt_size ho
  have g1 : (s.heap.push { cls := .type "bytearray", data := .bytearray #[] }).get? s.heap.objs.size = some { cls := .type "bytearray", data := .bytearray #[] } := Heap.get?_push_size _ rfl
  have g2 : ((s.heap.push { cls := .type "bytearray", data := .bytearray #[] }).update s.heap.objs.size (Obj.mapBytearray fun _ => #[])).get? s.heap.objs.size = some { cls := .type "bytearray", data := .bytearray #[] } := Heap.get?_update_self (Obj.mapBytearray fun _ => #[]) g1 rfl
  have g3 : (((s.heap.push { cls := .type "bytearray", data := .bytearray #[] }).update s.heap.objs.size (Obj.mapBytearray fun _ => #[])).update s.heap.objs.size (Obj.mapBytearray fun _ => c)).get? s.heap.objs.size = some (baObj c) := Heap.get?_update_self (Obj.mapBytearray fun _ => c) g2 rfl
  have keep : ∀ {b' : Addr} {o : Obj}, s.heap.get? b' = some o → (((s.heap.push { cls := .type "bytearray", data := .bytearray #[] }).update s.heap.objs.size (Obj.mapBytearray fun _ => #[])).update s.heap.objs.size (Obj.mapBytearray fun _ => c)).get? b' = some o := fun {b' o} e => by
    have ne : b' ≠ s.heap.objs.size := Nat.ne_of_lt (Heap.lt_size e)
    rw [Heap.get?_update_ne _ _ _ _ ne, Heap.get?_update_ne _ _ _ _ ne]
    exact Heap.get?_push_of_some _ e
  have hS2 : Heap.IsSliceOf (((s.heap.push { cls := .type "bytearray", data := .bytearray #[] }).update s.heap.objs.size (Obj.mapBytearray fun _ => #[])).update s.heap.objs.size (Obj.mapBytearray fun _ => c)) sl l u .none := let ⟨o, ho, r⟩ := hS; ⟨o, keep ho, r⟩
  refine wpS_bind (wpS_holding (wpS_any (ba_sliceParts hl hu hS2 ?_)))
  refine wpS_bind (wpS_any (ba_payload g3 ?_))
  refine wpS_bind (wpS_any (ba_payload (keep h) ?_))
  refine wpS_bind (wpS_of_eq (sliceIndices_raw (some lo) (some hi) none b.size (fun e => nomatch e)) ?_)
  rw [bounds_in h0 (by rw [h1]; exact Int.le_add_of_nonneg_right (Int.natCast_nonneg _)) h2]
  dsimp only
  have em : max lo hi = hi := Int.max_eq_right (by rw [h1]; exact Int.le_add_of_nonneg_right (Int.natCast_nonneg _))
  rw [if_pos (show ((1 : Int) == 1) = true from rfl), em]
  refine wpS_bind (wpS_any (wpAny_rule ?_))
  rw [if_neg (by simp only [bne_iff_ne, ne_eq, Classical.not_not]; omega)]
  have e3 : (fun b : Array UInt8 => b.extract 0 lo.toNat ++ c ++ b.extract hi.toNat) = fun b => baPut b c lo.toNat hi.toNat := by
    funext b; rfl
  rw [e3]
  refine wpS_bind (wpS_any (ba_write (keep h) (by rw [baPut_size (by first | (rw [em, h1]; exact add_toNat h0) | (rw [h1]; exact add_toNat h0) | omega) (by first | (rw [em]; exact Int.toNat_le.mpr h2) | exact Int.toNat_le.mpr h2 | omega)]; exact hz) ?_))
  exact wpS_pure ⟨.none, rfl, wpS_pure (wpS_pure hQ)⟩
end
section
variable {prog : Program} {w : World} {A : Around} {E : Value → Shared → Prop} {s : Shared} {h₀ : Heap} {L : Addr} {m : PySem.Str → Option Value} {news left : Led}
theorem led_upd {h : Heap} {a : Addr} {o o' : Obj} {f : Obj → Obj} (F : Fr h₀ L h m) (N : News h₀ L h news) (tk : Take1 a o news left) (e : f o = o') (hf : o'.isFreed = false) : Fr h₀ L (h.update a f) m ∧ News h₀ L (h.update a f) ((a, o') :: left) := by
  have N' : News h₀ L h ([] ++ (a, o) :: left) := fun p hp => by
    rcases List.mem_cons.mp hp with rfl | hp
    · exact N _ tk.spec.1
    · exact N _ (tk.spec.2 p hp).1
  exact news_upd F N' (fun _ hp => nomatch hp) (fun p hp => (tk.spec.2 p hp).2) e hf
theorem ba0_L {Q : Value → Shared → Prop} (F : Fr h₀ L s.heap m) (N : News h₀ L s.heap news) (h : ∀ aB h', Fr h₀ L h' m → News h₀ L h' ((aB, baObj #[]) :: news) → (∀ p ∈ news, p.1 < aB) → Q (.ref aB) { s with heap := h' }) :
    wpS (model prog w) A (call (.type "bytearray") []) Q E s := by
  refine call_ba0 ?_
  obtain ⟨F', N'⟩ := led_upd (f := Obj.mapBytearray fun _ => #[]) (o' := baObj #[]) (F.push (baObj #[])) (N.push F (baObj #[])) (.head fun p hp e => absurd (Heap.lt_size (N p hp).1) (by rw [e]; exact Nat.lt_irrefl _)) rfl rfl
  exact h _ _ F' N' fun p hp => Heap.lt_size (N p hp).1
theorem ext_L {a : Addr} {b c : Array UInt8} {t : Tok} {Q : Value → Shared → Prop} (F : Fr h₀ L s.heap m) (N : News h₀ L s.heap news) (tk : Take1 a (baObj b) news left) (hz : (b ++ c).size ≤ sizeLine)
    (h : ∀ h', Fr h₀ L h' m → News h₀ L h' ((a, baObj (b ++ c)) :: left) → Q .none { s with heap := h' }) : wpS (model prog w) A (call (.builtin "bytearray.extend") [.ref a, .bytes c t]) Q E s := by
  obtain ⟨F', N'⟩ := led_upd (f := Obj.mapBytearray (· ++ c)) (o' := baObj (b ++ c)) F N tk rfl rfl
  exact call_ba_extend (N _ tk.spec.1).1 hz (h _ F' N')
theorem ba_plainAttrs : PlainAttrs "bytearray" where
  ga := ⟨"bytearray.__getattribute__", by rw [typeLookup_type, builtinLookup_eq_fast]; kernel_rfl, by decide +kernel⟩
  noGetattr := by rw [typeLookup_type, builtinLookup_eq_fast]; kernel_rfl
theorem ba_type_extend : typeOf (.builtin "bytearray.extend") = pure (.type "method_descriptor") := by kernel_rfl
theorem getm_ext {a : Addr} {b : Array UInt8} {pl : Sem Bool} {Q : Value × List Value → Shared → Prop} (N : News h₀ L s.heap news) (hm : (a, baObj b) ∈ news) (h : Q (.builtin "bytearray.extend", [.ref a]) s) : wpAny (model prog w) A (getMethod (.ref a) "extend" pl) Q E s :=
  getMethod_builtin (ba_type (N _ hm).1) ba_plainAttrs ba_slot_extend ba_type_extend (fun x e => by cases e; exact ⟨_, (N _ hm).1, rfl⟩) h
theorem setat_L {a : Addr} {b : Array UInt8} {k x : Int} {t u : Tok} {Q : Unit → Shared → Prop} (F : Fr h₀ L s.heap m) (N : News h₀ L s.heap news) (tk : Take1 a (baObj b) news left) (h0 : 0 ≤ k) (h1 : k < b.size) (hz : b.size ≤ sizeLine) (x0 : 0 ≤ x) (x1 : x < 256)
    (h : ∀ h', Fr h₀ L h' m → News h₀ L h' ((a, baObj (b.setIfInBounds k.toNat x.toNat.toUInt8)) :: left) → Q () { s with heap := h' }) : wpAny (model prog w) A (setItem (.ref a) (.int k t) (.int x u)) Q E s := by
  obtain ⟨F', N'⟩ := led_upd (f := Obj.mapBytearray (·.setIfInBounds k.toNat x.toNat.toUInt8)) (o' := baObj (b.setIfInBounds k.toNat x.toNat.toUInt8)) F N tk rfl rfl
  exact ba_setat (N _ tk.spec.1).1 h0 h1 hz x0 x1 (h _ F' N')
theorem setslice_L {a sl : Addr} {b c : Array UInt8} {t : Tok} {l u : Value} {lo hi : Int} {Q : Unit → Shared → Prop} (F : Fr h₀ L s.heap m) (N : News h₀ L s.heap news) (tk : Take1 a (baObj b) news left) (hS : s.heap.IsSliceOf sl l u .none) (hl : IsPart l (some lo)) (hu : IsPart u (some hi))
    (h0 : 0 ≤ lo) (h1 : hi = lo + c.size) (h2 : hi ≤ b.size) (hz : b.size ≤ sizeLine)
    (h : ∀ h', Fr h₀ L h' m → News h₀ L h' ((a, baObj (baPut b c lo.toNat hi.toNat)) :: left) → Q () { s with heap := h' }) : wpS (model prog w) A (setItem (.ref a) (.ref sl) (.bytes c t)) Q E s := by
  have off : ∀ p ∈ news, p.1 ≠ s.heap.objs.size := fun p hp e => absurd (Heap.lt_size (N p hp).1) (by rw [e]; exact Nat.lt_irrefl _)
  obtain ⟨F1, N1⟩ := led_upd (f := Obj.mapBytearray fun _ => #[]) (o' := baObj #[]) (F.push (baObj #[])) (N.push F (baObj #[])) (.head off) rfl rfl
  obtain ⟨F2, N2⟩ := led_upd (f := Obj.mapBytearray fun _ => c) (o' := baObj c) F1 N1 (.head off) rfl rfl
  have tk2 : Take1 a (baObj b) ((s.heap.objs.size, baObj c) :: news) ((s.heap.objs.size, baObj c) :: left) := .tail (fun e => off _ tk.spec.1 e.symm) tk
  obtain ⟨F3, N3⟩ := led_upd (f := Obj.mapBytearray fun b => baPut b c lo.toNat hi.toNat) (o' := baObj (baPut b c lo.toNat hi.toNat)) F2 N2 tk2 rfl rfl
  refine ba_setslice (N _ tk.spec.1).1 hl hu hS h0 h1 h2 hz (h _ F3 fun p hp => N3 p ?_)
  rcases List.mem_cons.mp hp with rfl | hp
  · exact .head _
  · exact .tail _ (.tail _ hp)
theorem getslice_L {value slice : PySem.Expr} {a : Addr} {b : Array UInt8} {l u : Value} {lo hi : Option Int} {Q : Value → Shared → Prop} (F : Fr h₀ L s.heap m) (N : News h₀ L s.heap news) (hm : (a, baObj b) ∈ news) (hl : IsPart l lo) (hu : IsPart u hi) (hz : b.size ≤ sizeLine)
    (h : ∀ x h', Fr h₀ L h' m → News h₀ L h' ((x, baObj (KBy.picked b lo hi)) :: news) → (∀ p ∈ news, p.1 < x) → Q (.ref x) { s with heap := h' })
    (hs : subscripted slice false (.ref a) (.ref s.heap.objs.size) = operate [.ref s.heap.objs.size, .ref a] (getItem (.ref a) (.ref s.heap.objs.size)) := by with_unfolding_all rfl)
    (ht : ∀ r, letTemporaryGo value (.ref a) r = pure () := by intro _; with_unfolding_all rfl) :
    wpAny (model prog w) A (subscriptTail value slice (.ref a) (.ref s.heap.objs.size)) Q E { s with heap := s.heap.push { cls := .type "slice", data := .fields #[l, u, .none] } } := by
  have F1 := F.push { cls := .type "slice", data := .fields #[l, u, .none] }
  have N1 : News h₀ L (s.heap.push { cls := .type "slice", data := .fields #[l, u, .none] }) news := News.pushKeep N _
  refine tail_of_ItemOn ⟨"bytearray", _, ba_slot_getitem.lookup, ba_type (N1 _ hm).1, ba_getslice (N1 _ hm).1 hl hu (Heap.IsSliceOf.new _ _ _ _) hz ?_⟩ hs ht
  exact h _ _ (F1.push _) (N1.push F1 _) fun p hp => Nat.lt_of_lt_of_le (Heap.lt_size (N p hp).1) (by rw [Heap.size_push]; exact Nat.le_succ _)
end
/-! an exception in flight, its class and its own dict kept in sight -/
noncomputable def TraceD (h base : Heap) (e : Addr) (cls : Value) (dct : Option Addr) (fl : Value) : Prop :=
  ∃ oe vs T oT ts, h.get? e = some oe ∧ oe.cls = cls ∧ oe.dict = dct ∧ oe.data = .fields vs ∧ vs[1]? = some (.ref T) ∧ base.get? T = none ∧ T ≠ e ∧ h.get? T = some oT ∧ oT.data = .fields ts ∧ ts[3]? = some fl
structure FlyD (base : Heap) (l : List Env) (e : Addr) (cls : Value) (dct : Option Addr) (fl : Value) (h : Heap) : Prop where
  stays : base.StaysIn h
  fresh : base.get? e = none
  frames : h.FunFrames base l
  trace : TraceD h base e cls dct fl
theorem not_rec {h : Heap} {b b0 : Addr} {o o0 : Obj} {vs : Array Value} (ho : h.get? b0 = some o0) (hd : o0.data = .fields vs) (hb : h.get? b = some o) (hn : ∀ vs, o.data ≠ .fields vs) : b ≠ b0 := fun q => by
  rw [q, ho] at hb; cases hb; exact hn vs hd
theorem rec_upd {base h : Heap} {l : List Env} {b0 : Addr} {o : Obj} {vs : Array Value} {f : Array Value → Array Value} (hb : base.StaysIn h) (hn : base.get? b0 = none) (fr : h.FunFrames base l) (ho : h.get? b0 = some o) (hd : o.data = .fields vs) :
    base.StaysIn (h.update b0 (Obj.mapFields f)) ∧ (h.update b0 (Obj.mapFields f)).FunFrames base l ∧ h.UpToSlots (h.update b0 (Obj.mapFields f)) := by
  have off : ∀ {b}, b ≠ b0 → (h.update b0 (Obj.mapFields f)).get? b = h.get? b := fun hne => Heap.get?_update_other _ _ (Ne.symm hne)
  refine ⟨fun b x q => (off fun z => by rw [z, hn] at q; cases q).trans (hb b x q), fr.of_keeps fun b x q hx => ⟨x, (off (not_rec ho hd q hx)).trans q, rfl⟩, fun b x q hx => ⟨x.slots, (off (not_rec ho hd q hx)).trans q⟩⟩
section
variable {M : Model} {A : Around} {E : Value → Shared → Prop} {s : Shared}
theorem entryD {base : Heap} {env : Env} {outer : List Env} {L e : Addr} {oe : Obj} {vs : Array Value} {head : Value} {hadNext : Bool} {Q : Unit → Shared → Prop}
    (hfr : A.frames = some (env :: outer)) (hl : s.heap.FunFrames base (env :: outer)) (hf : env.frame = some L) (he : s.heap.get? e = some oe) (hkb : base.StaysIn s.heap) (hen : base.get? e = none) (hd : oe.data = .fields vs) (hsz : 1 < vs.size)
    (h : ∀ h', FlyD base (env :: outer) e oe.cls oe.dict (rawInt L) h' → s.heap.UpToSlots h' → Q () { s with heap := h' }) :
    wpAny M A (do let a ← frameOf env; let pl ← entryPlaceOf L hadNext; let b ← EntryCells.newEntry head a .none (rawInt L) .none pl; setField (.ref e) 1 b) Q E s := by
  refine wpAny_bind (wpAny_frameOf_fun hfr hl hf fun h₁ hs₁ => ?_)
  refine wpAny_bind (wpAny_entryPlaceOf fun pl hpl => ?_)
  unfold EntryCells.newEntry newFields
  refine wpAny_bind (wpAny_newObj_type ?_ (hpl.sizeOk5 _ _ _ _ _))
  have nin : e ∉ (env :: outer).filterMap (·.frame) := fun hm => by
    obtain ⟨_, o, ho, hnf⟩ := hl.mem hm
    rw [he] at ho; cases ho; exact hnf vs hd
  have he₁ : h₁.get? e = some oe := (hs₁.2.1 e nin).trans he
  have st₁ : base.StaysIn h₁ := fun b o q => (hs₁.2.1 b fun hm => by rw [(hl.mem hm).1] at q; cases q).trans (hkb b o q)
  have up₁ : s.heap.UpToSlots h₁ := fun b o q _ => hs₁.2.2 b o q
  have fr₁ : h₁.FunFrames base (env :: outer) := hl.of_keeps fun b o q _ => let ⟨_, r⟩ := hs₁.2.2 b o q; ⟨_, r, rfl⟩
  generalize htb : ({ cls := .type "traceback", dict := none, data := .fields ([head, .ref L, .none, rawInt L, .none] ++ (if pl.isEmpty then List.replicate 6 Value.none else pl)).toArray } : Obj) = tb
  have htd : tb.data = .fields ([head, .ref L, .none, rawInt L, .none] ++ (if pl.isEmpty then List.replicate 6 Value.none else pl)).toArray := by rw [← htb]
  have hfree : tb.isFreed = false := by rw [← htb]; rfl
  have he₂ : (h₁.push tb).get? e = some oe := Heap.get?_push_of_some _ he₁
  have ne : h₁.objs.size ≠ e := Nat.ne_of_gt (Heap.lt_size he₁)
  refine wpAny_setField he₂ hd hsz ?_
  have st₂ : base.StaysIn (h₁.push tb) := fun b o q => Heap.get?_push_of_some _ (st₁ b o q)
  have fr₂ : (h₁.push tb).FunFrames base (env :: outer) := fr₁.of_keeps fun b o q _ => ⟨o, Heap.get?_push_of_some _ q, rfl⟩
  obtain ⟨a1, a2, a3⟩ := rec_upd (f := fun x => x.setIfInBounds 1 (.ref h₁.objs.size)) st₂ hen fr₂ he₂ hd
  have hd₃ := Obj.data_mapFields hd (·.setIfInBounds 1 (Value.ref h₁.objs.size))
  refine h _ ⟨a1, hen, a2, _, _, h₁.objs.size, tb, _, Heap.get?_update_self _ he₂ (Obj.isFreed_of_fields hd₃), Obj.cls_mapFields _ _, ?_, hd₃, by simp [hsz], st₁.fresh, ne, ?_, htd, ?_⟩ ((up₁.trans (.of_keeps fun b o q => Heap.get?_push_of_some _ q)).trans a3)
  · obtain ⟨c, d, dt, sl⟩ := oe; cases hd; rfl
  · exact (Heap.get?_update_other _ _ (Ne.symm ne)).trans (Heap.get?_push_size _ hfree)
  · rcases hpl with rfl | ⟨_, _, _, _, _, _, _, rfl⟩ <;> simp
theorem lookFirstD {base : Heap} {env : Env} {outer : List Env} {L e : Addr} {oe : Obj} {vs : Array Value} {Q : Unit → Shared → Prop}
    (hfr : A.frames = some (env :: outer)) (hl : s.heap.FunFrames base (env :: outer)) (hf : env.frame = some L) (he : s.heap.get? e = some oe) (hkb : base.StaysIn s.heap) (hen : base.get? e = none) (hd : oe.data = .fields vs) (h1 : vs[1]? = some .none)
    (h : ∀ h', FlyD base (env :: outer) e oe.cls oe.dict (rawInt L) h' → s.heap.UpToSlots h' → Q () { s with heap := h' }) : wpAny M A (noteFrame (.ref e) env) Q E s := by
  unfold noteFrame
  simp only [hf]
  refine wpAny_bind (wpAny_field he hd h1 ?_)
  rw [if_neg (by decide)]
  exact entryD hfr hl hf he hkb hen hd (Array.getElem?_eq_some_iff.mp h1).1 h
theorem lookNextD {base : Heap} {env : Env} {outer : List Env} {L e : Addr} {cls : Value} {dct : Option Addr} {Q : Unit → Shared → Prop}
    (hfr : A.frames = some (env :: outer)) (hf : env.frame = some L) (fl : FlyD base (env :: outer) e cls dct .none s.heap)
    (h : ∀ h', FlyD base (env :: outer) e cls dct (rawInt L) h' → s.heap.UpToSlots h' → Q () { s with heap := h' }) : wpAny M A (noteFrame (.ref e) env) Q E s := by
  obtain ⟨f1, f2, f3, oe, vs, T, oT, ts, he, hcls, hdict, hd, h1, hnT, hTe, hT, hdT, h3⟩ := fl
  subst hcls hdict
  unfold noteFrame
  simp only [hf]
  refine wpAny_bind (wpAny_field he hd h1 ?_)
  rw [if_pos (show (Value.ref T != Value.none) = true from by simp)]
  refine wpAny_bind (wpAny_field hT hdT h3 ?_)
  rw [if_neg (show ¬ ((Value.none == rawInt L) = true) from by simp [rawInt])]
  refine wpAny_bind (wpAny_setField hT hdT (Array.getElem?_eq_some_iff.mp h3).1 ?_)
  obtain ⟨a1, a2, a3⟩ := rec_upd (f := fun x => x.setIfInBounds 3 .none) f1 hnT f3 hT hdT
  exact entryD hfr a2 hf ((Heap.get?_update_other _ _ hTe).trans he) a1 f2 hd (Array.getElem?_eq_some_iff.mp h1).1 fun h' x y => h h' x (a3.trans y)
theorem landD {base : Heap} {l : List Env} {e : Addr} {cls : Value} {dct : Option Addr} {fl : Value} {Q : Unit → Shared → Prop} (x : FlyD base l e cls dct fl s.heap)
    (h : ∀ h', FlyD base l e cls dct .none h' → s.heap.UpToSlots h' → Q () { s with heap := h' }) : wpAny M A (setFlight (.ref e) none) Q E s := by
  obtain ⟨f1, f2, f3, oe, vs, T, oT, ts, he, hcls, hdict, hd, h1, hnT, hTe, hT, hdT, h3⟩ := x
  have hsz : 3 < ts.size := (Array.getElem?_eq_some_iff.mp h3).1
  unfold setFlight
  refine wpAny_bind (wpAny_field he hd h1 ?_)
  rw [if_pos (show (Value.ref T != Value.none) = true from by simp)]
  refine wpAny_setField hT hdT hsz ?_
  obtain ⟨a1, a2, a3⟩ := rec_upd (f := fun x => x.setIfInBounds 3 .none) f1 hnT f3 hT hdT
  have hdT' := Obj.data_mapFields hdT (·.setIfInBounds 3 Value.none)
  exact h _ ⟨a1, f2, a2, oe, vs, T, _, _, (Heap.get?_update_other _ _ hTe).trans he, hcls, hdict, hd, h1, hnT, hTe, Heap.get?_update_self _ hT (Obj.isFreed_of_fields hdT'), hdT', by simp [hsz]⟩ a3
theorem FlyD.pop {base h : Heap} {env : Env} {l : List Env} {e : Addr} {cls : Value} {dct : Option Addr} {fl : Value} (x : FlyD base (env :: l) e cls dct fl h) : FlyD base l e cls dct fl h := ⟨x.stays, x.fresh, x.frames.2.2, x.trace⟩
theorem leaveFirstD {base : Heap} {env : Env} {outer : List Env} {L e : Addr} {oe : Obj} {vs : Array Value} {Q : Unit → Shared → Prop}
    (hfr : A.frames = some (env :: outer)) (hl : s.heap.FunFrames base (env :: outer)) (hf : env.frame = some L) (he : s.heap.get? e = some oe) (hkb : base.StaysIn s.heap) (hen : base.get? e = none) (hd : oe.data = .fields vs) (h1 : vs[1]? = some .none)
    (h : ∀ h', FlyD base outer e oe.cls oe.dict .none h' → s.heap.UpToSlots h' → Q () { s with heap := h' }) : wpAny M A (leaving env (.ref e)) Q E s := by
  unfold leaving
  exact wpAny_bind (lookFirstD hfr hl hf he hkb hen hd h1 fun h₁ x u => landD (s := { s with heap := h₁ }) x fun h₂ y v => h h₂ y.pop (u.trans v))
theorem leaveNextD {base : Heap} {env : Env} {outer : List Env} {L e : Addr} {cls : Value} {dct : Option Addr} {Q : Unit → Shared → Prop}
    (hfr : A.frames = some (env :: outer)) (hf : env.frame = some L) (fl : FlyD base (env :: outer) e cls dct .none s.heap)
    (h : ∀ h', FlyD base outer e cls dct .none h' → s.heap.UpToSlots h' → Q () { s with heap := h' }) : wpAny M A (leaving env (.ref e)) Q E s := by
  unfold leaving
  exact wpAny_bind (lookNextD hfr hf fl fun h₁ x u => landD (s := { s with heap := h₁ }) x fun h₂ y v => h h₂ y.pop (u.trans v))
end
section
variable {prog : Program} {w : World} {A : Around} {E : Value → Shared → Prop} {s : Shared} {K : Frag} {C : Addr}
theorem ex_check {M : Model} {h : Heap} {g : Array GenState} {d : Drawn} {t : Nat} {os : OsState} {nm q : PySem.Str} {N : Addr} {bs bm : List Value} {hdct : Bool} {sn : List PySem.Str} {sub : List Value} {ab : Bool} {col : Option Bool} {dd : Option Addr} {k0 k1 k2 k3 k5 : Option Value} {newId : String}
    {e : Addr} {oe : Obj} {v : Value} {Q : Unit → Shared → Prop} (hC : h.get? C = some (excClassObj nm q C N bs bm hdct sn sub ab col dd k0 k1 k2 k3 k5 newId)) (hb : bm.contains (.type "Exception") = true) (he : h.get? e = some oe) (hcls : oe.cls = .ref C) (hq : Q () ⟨h, g, d, t, os⟩) :
    wpAny M A (checkBuiltinCall "Exception.__init__" ⟨[.ref e, v], []⟩) Q E ⟨h, g, d, t, os⟩ := by
  have F := PySem.F.excBase_Exception
  have hcB : (Value.ref C :: bm).contains (.type "Exception") = true := by rw [List.contains_cons, hb, Bool.or_true]
  have hshort := F.noStar
  simp only [checkBuiltinCall, F.initKind, F.initSplit, F.initRow]
  repeat (first | (with_reducible refine wpAny_loadPart_at he ?_; rw [hcls]) | with_reducible refine wpAny_loadPart_at hC ?_ | (with_reducible refine wpAny_isSubtype_exc hC ?_; rw [hcB]) | wp_step)
  exact hq
/-- Exception.__init__(e, v) -/
theorem call_excinit {e : Addr} {oe : Obj} {vs : Array Value} {v : Value} {Q : Value → Shared → Prop} (X : K.In s.heap) (hm : ktsIn K C "Exception" = true) (he : s.heap.get? e = some oe) (hc : oe.cls = .ref C) (hd : oe.data = .fields vs) (h0 : 0 < vs.size)
    (hQ : Q .none { s with heap := (s.heap.push { cls := .type "tuple", data := .seq #[v] }).update e (Obj.mapFields fun x => x.setIfInBounds 0 (.ref s.heap.objs.size)) }) :
    wpAny (model prog w) A (call (.builtin "Exception.__init__") [.ref e, v]) Q E s := by
  have F := PySem.F.excBase_Exception
  obtain ⟨nm, qn, N, bs, bm, hdct, sn, sub, ab, col, dd, k0, k1, k2, k3, k5, newId, hC, hbase, hbT⟩ := kts_cls X hm
  obtain ⟨hh, g, d, t, os⟩ := s
  refine wpAny_call (codeAny_call_builtin F.init.plain F.initEntry (ex_check hC hbT he hc ?_))
  unfold Builtin.«BaseException.__init__»
  have he1 : (hh.push { cls := .type "tuple", data := .seq #[v] }).get? e = some oe := Heap.get?_push_of_some _ he
  simp only [List.isEmpty_nil, Bool.not_true, Bool.false_eq_true, if_false]
  unfold newTuple Builtin.BaseException.bexcPut
  refine wpAny_bind (wpAny_newObj_type ?_ (by show (1 : Nat) ≤ sizeLine; decide))
  refine wpAny_bind (wpAny_bind (wpAny_field he1 hd (Array.getElem?_eq_getElem h0) ?_))
  refine wpAny_bind (wpAny_setField he1 hd h0 ?_)
  split
  · exact wpAny_letGo (wpAny_pure hQ)
  · exact wpAny_pure (wpAny_pure hQ)

open Builtin Builtin.ObjectAttr in
/-- e.name = v, where e has no dict yet -/
theorem set_excnew {e : Addr} {oe : Obj} {vs : Array Value} {cd : ClassData} {name : PySem.Str} {v : Value} {Q : Unit → Shared → Prop} (X : K.In s.heap) (he : s.heap.get? e = some oe) (hc : oe.cls = .ref C) (hd : oe.data = .fields vs) (hn : oe.dict = none)
    (hs : findIn K (.ref C) "__setattr__" = some (some (.builtin "object.__setattr__"))) (hcd : clsIn K C = some cd) (hpass : ∀ self, refuseLoop self "__setattr__" cd.mro = pure ()) (hobj : mroIn K C (.type "object") = some true) (hdict : cd.hasDict = true) (ht : takerIn K C name = some none)
    (hQ : Q () { s with heap := ((s.heap.push emptyDict).update e fun o => { o with dict := some s.heap.objs.size }).update s.heap.objs.size (Obj.putName name (PyData.keyHash w.params name) (.str name (s.toks + 1)) v), toks := s.toks + 2 }) :
    wpAny (model prog w) A (setAttr (.ref e) name v) Q E s := by
  have SF := PySem.F.store_object
  have I : InstAt s.heap e oe C none := ⟨he, hc, by unfold notCls; rw [hd], by rw [hn]; trivial⟩
  refine set_plain X I hs ?_
  have L1 : Looks (model prog w) s.heap (isSubtype (.ref C) (.type "object")) true := looks_mroIn X hobj
  have sub : Looks (model prog w) s.heap (isInstance (.ref e) (.type "object")) true := I.type.andThen L1
  obtain ⟨hh, g, d, t, os⟩ := s
  dsimp only at he hQ I sub X ⊢
  refine codeAny_call_builtin SF.slot.plain SF.entry (@check_slot (model prog w) _ _ _ "object.__setattr__" "object" "__setattr__" (.ref e) [.str name t, v] [] _ SF.kind SF.split sub (SF.args (.ref e) (.str name t) v) ?_)
  obtain ⟨attr, ha, hr⟩ := Option.bind_eq_some_iff.mp ht
  have hm : Looks (model prog w) hh (mroOf (.ref C)) cd.mro := (looks_clsIn X hcd).andThen .now
  have L3 : Looks (model prog w) hh (storeTaker? attr) none := by
    cases attr with
    | none => exact .now
    | some a =>
      obtain ⟨b, hb, hbb⟩ := Option.map_eq_some_iff.mp hr
      refine (looks_takesIn X hb).andThen ?_
      cases b with
      | false => exact .now
      | true => cases hbb
  rw [osa_eq, refuse_eq]
  refine wpAny_bind (wpAny_bind (I.type.here (wpAny_bind (hm.here ?_))))
  rw [hpass]
  refine wpAny_pure (wpAny_bind (I.type.here (wpAny_bind ((looks_findIn X ha).here (wpAny_bind (L3.here ?_))))))
  have he1 : (hh.push emptyDict).get? e = some oe := Heap.get?_push_of_some _ he
  have ne : hh.objs.size ≠ e := Nat.ne_of_gt (Heap.lt_size he)
  have hD1 : ((hh.push emptyDict).update e fun o => { o with dict := some hh.objs.size }).get? hh.objs.size = some emptyDict := (Heap.get?_update_other _ _ (Ne.symm ne)).trans (Heap.get?_push_size _ rfl)
  obtain ⟨oc, odi, oda, osl⟩ := oe
  dsimp only at hc hd hn
  subst hc hd hn
  unfold storeInOwnDict
  refine wpAny_bind (wpAny_pure ?_)
  rw [if_neg (show ¬ ((Value.ref C == Value.type "module") = true) from Bool.false_ne_true)]
  refine wpAny_bind ?_
  show wpAny _ _ (instanceDict e true) _ _ _
  unfold instanceDict
  refine wpAny_bind (wpAny_loadPart he ?_)
  dsimp only
  refine wpAny_bind ((looks_clsIn X hcd).here ?_)
  rw [hdict]
  simp only [Bool.not_true, Bool.false_eq_true, if_false]
  rw [if_neg (show ¬ ((false || !typeHasDict (Value.ref C)) = true) from by simp [typeHasDict])]
  refine wpAny_bind (wpAny_alloc (wpAny_bind (wpAny_update he1 ?_)))
  refine wpAny_pure (a := some hh.objs.size) ?_
  dsimp only
  unfold storeInDict newKeyGuard
  refine wpAny_bind (wpAny_pure (wpAny_bind ?_))
  unfold nsSet
  refine wpAny_bind (wpAny_bind (wpAny_askSetting (wpAny_pure (wpAny_bind (wpAny_mkText (wpAny_bind (wpAny_loadPart hD1 ?_)))))))
  dsimp only
  rw [aRefKeyMayBeTheName_at, show (!(#[] : Array DictEntry).any (·.key.isStr name) && (#[] : Array DictEntry).any (·.refKey)) = false from by simp]
  refine wpAny_updatePart hD1 ?_
  have e2 : Obj.putName name (PyData.keyHash w.params name) (.str name (t + 1)) v emptyDict = dictOf (putL name (PyData.keyHash w.params name) (.str name (t + 1)) v []) (putN name [] 0) := putName_dict name _ _ v [] 0
  have hD2 := Heap.get?_update_self (Obj.putName name (PyData.keyHash w.params name) (.str name (t + 1)) v) hD1 (by rw [e2]; rfl)
  rw [e2] at hD2
  refine wpAny_bind (wpAny_lookBehind hD2 (by exact pastItsLine_dict (by show (1 : Nat) ≤ sizeLine + 1; decide)) ?_)
  exact wpAny_pure hQ
end
noncomputable abbrev excO (C : Addr) (t : Value) : Obj := { cls := .ref C, data := .fields #[t, .none, .none, .none, .bool false, .none] }
noncomputable abbrev tupO (l : List Value) : Obj := { cls := .type "tuple", data := .seq l.toArray }
section
variable {prog : Program} {w : World} {A : Around} {R : Result → Shared → Prop} {h : Heap} {g : Array GenState} {d : Drawn} {t : Nat} {os : OsState} {K : Frag}
variable {nm q : PySem.Str} {C N : Addr} {bs bm : List Value} {hdct : Bool} {sn : List PySem.Str} {sub : List Value} {ab : Bool} {col : Option Bool} {dd : Option Addr} {k0 k1 k2 k3 k5 : Option Value}
theorem exc_newcheck {M : Model} {E : Value → Shared → Prop} {rest : List Value} {Q : Unit → Shared → Prop} (hC : h.get? C = some (excClassObj nm q C N bs bm hdct sn sub ab col dd k0 k1 k2 k3 k5 "Exception.__new__")) (hb : bm.contains (.type "Exception") = true)
    (hq : Q () ⟨h, g, d, t, os⟩) : wpAny M A (checkBuiltinCall "Exception.__new__" ⟨.ref C :: rest, []⟩) Q E ⟨h, g, d, t, os⟩ := by
  have F := PySem.F.excBase_Exception
  have hcont : (Value.ref C :: bm).contains (.type "Exception") = true := by rw [List.contains_cons, hb, Bool.or_true]
  have hstar := F.noStar
  simp only [checkBuiltinCall, F.newKind, F.newSplit, F.newRow]
  repeat (first | refine wpAny_loadPart_at hC ?_ | (refine wpAny_isSubtype_exc hC ?_; rw [hcont]) | refine wpAny_staticBase_exc hC ?_ | refine wpAny_madeBy_exc hC ?_ | simp only [bne_self_eq_false, Bool.false_eq_true, if_false] | wp_step)
  exact hq
theorem exc_new {rest : List Value} (hC : h.get? C = some (excClassObj nm q C N bs bm hdct sn sub ab col dd k0 k1 k2 k3 k5 "Exception.__new__")) (hb : bm.contains (.type "Exception") = true) (hA : bm.contains (.type "AttributeError") = false) (hN : bm.contains (.type "NameError") = false)
    (hq : R (.ok (.ret (.ref (h.objs.size + 1)))) ⟨(h.push (tupO rest)).push (excO C (.ref h.objs.size)), g, d, t, os⟩) (hrest : rest.length ≤ sizeLine) :
    codeAny (model prog w) A (.builtin "Exception.__new__" ⟨.ref C :: rest, []⟩) R ⟨h, g, d, t, os⟩ := by
  have F := PySem.F.excBase_Exception
  have hends := F.ends
  have hcB : (Value.ref C :: bm).contains (.type "Exception") = true := by rw [List.contains_cons, hb, Bool.or_true]
  have hcA : (Value.ref C :: bm).contains (.type "AttributeError") = false := by rw [List.contains_cons, hA]; rfl
  have hcN : (Value.ref C :: bm).contains (.type "NameError") = false := by rw [List.contains_cons, hN]; rfl
  refine PySem.codeAny_builtinAt F.entry ?_
  unfold Builtin.«BaseException.__new__»
  refine PySem.wpAt_bind ?_
  show PySem.wpAt _ _ _ (stack >>= _) _ _ _
  refine PySem.wpAt_bind (PySem.wpAt_stack fun p below => PySem.wpAt_of_wpAny ?_)
  wp_walk
  refine PySem.wpAt_of_wpAny ?_
  rw [F.owner]
  repeat (first | with_reducible refine wpAny_madeHere_exc F.canon hC ?_ | with_reducible refine wpAny_loadPart_at hC ?_ | (with_reducible refine wpAny_isSubtype_exc hC ?_; first | rw [hcB] | rw [hcA] | rw [hcN]) | wp_step)
  show R _ _
  rw [Heap.size_push]
  exact hq
theorem make_exc {rest : List Value} {fI : Addr} (X : K.In h) (hCK : K.lookup C = some (excClassObj nm q C N bs bm hdct sn sub ab col dd k0 k1 k2 k3 k5 "Exception.__new__")) (hb : bm.contains (.type "Exception") = true) (hA : bm.contains (.type "AttributeError") = false) (hN : bm.contains (.type "NameError") = false)
    (hcall : specialIn K (.ref C) "__call__" = some (some (.builtin "type.__call__"))) (hinst : instIn K (.ref C) (.type "type") = some true) (hself : mroIn K C (.ref C) = some true) (hi : findIn K (.ref C) "__init__" = some (some (.ref fI))) (hf : typeIn K (.ref fI) = some (.type "function")) (hrest : rest.length ≤ sizeLine)
    (hq : codeAny (model prog w) (A.under (.builtin "type.__call__" ⟨.ref C :: rest, []⟩)) (.call (.ref fI) ⟨.ref (h.objs.size + 1) :: rest, []⟩) (InitBack (h.objs.size + 1) R) ⟨(h.push (tupO rest)).push (excO C (.ref h.objs.size)), g, d, t, os⟩) :
    codeAny (model prog w) A (.call (.ref C) ⟨rest, []⟩) R ⟨h, g, d, t, os⟩ := by
  have hC := X _ _ hCK
  have call : Looks (model prog w) h (specialOf (.ref C) "__call__") (some (.builtin "type.__call__")) := looks_specialIn X hcall
  have typ : Looks (model prog w) h (isInstance (.ref C) (.type "type")) true := looks_instIn X hinst
  have F := PySem.F.excBase_Exception
  refine codeAny_of_tree ?_
  show wpAny _ _ (callAny (.ref C) _) _ _ _
  refine nd_load hC ?_
  show wpAny _ _ (callAny.viaDunder (.ref C) _) _ _ _
  unfold callAny.viaDunder
  refine wpAny_bind (call.at ?_)
  dsimp only
  rw [tc_bind]
  refine wpAny_bind (wpAny_pure (wpAny_bind (wpAny_pure ?_)))
  refine wpAny_pure (a := Fin.again (.call (.builtin "type.__call__") ⟨.ref C :: rest, []⟩)) (And.intro rfl ?_)
  refine codeAny_call_builtin_at (Code.quiet_builtin _ (by decide +kernel)) entry_typeCall (check_slot tc_kind tc_split typ (tc_args _ _ _) ?_)
  unfold Builtin.«type.__call__»
  dsimp only
  rw [if_neg (show ¬ ((Value.ref C == Value.type "type") = true) from Bool.false_ne_true)]
  have hm : Looks (model prog w) h (mroOf (.ref C)) (.ref C :: bm) := ((Looks.ld (part := none) hC).andThen .now).andThen .now
  refine wpAny_bind (hm.at ?_)
  simp only [List.isEmpty_cons, Bool.false_eq_true, if_false]
  refine wpAny_bind (wpAny_madeBy_exc hC ?_)
  dsimp only
  refine wpAny_bind (wpAny_pure ?_)
  refine wpAny_bind (wpAny_holding (wpAny_call ?_))
  refine codeAny_call_builtin_code (Code.quiet_builtin _ F.quiet) (exc_newcheck hC hb ?_)
  refine exc_new hC hb hA hN ?_ hrest
  have k : ∀ b o, h.get? b = some o → ((h.push (tupO rest)).push (excO C (.ref h.objs.size))).get? b = some o := fun b o e => Heap.get?_push_of_some _ (Heap.get?_push_of_some _ e)
  have hx : ((h.push (tupO rest)).push (excO C (.ref h.objs.size))).get? (h.objs.size + 1) = some (excO C (.ref h.objs.size)) := by heap_get
  have t1 : Looks (model prog w) ((h.push (tupO rest)).push (excO C (.ref h.objs.size))) (typeOf (.ref (h.objs.size + 1))) (.ref C) := (Looks.ld hx).andThen .now
  have s0 : Looks (model prog w) h (isSubtype (.ref C) (.ref C)) true := looks_mroIn X hself
  have s1 := s0.keeps k
  have i0 : Looks (model prog w) h (typeLookup (.ref C) "__init__") (some (.ref fI)) := looks_findIn X hi
  have i1 := i0.keeps k
  have b0 : Looks (model prog w) h (bindSpecial (.ref fI) (.ref (h.objs.size + 1))) (.ref fI, [.ref (h.objs.size + 1)]) := bind_fn X _ hf
  have b1 := b0.keeps k
  have ti : Looks (model prog w) ((h.push (tupO rest)).push (excO C (.ref h.objs.size))) (isInstance (.ref (h.objs.size + 1)) (.ref C)) true := t1.andThen s1
  dsimp only
  refine wpAny_bind (ti.at ?_)
  simp only [Bool.not_true, Bool.false_eq_true, if_false]
  refine wpAny_bind (wpAny_holding ?_)
  unfold callSpecial? specialOf
  have tl : Looks (model prog w) ((h.push (tupO rest)).push (excO C (.ref h.objs.size))) (typeOf (.ref (h.objs.size + 1)) >>= fun t => typeLookup t "__init__") (some (.ref fI)) := t1.andThen i1
  refine wpAny_bind (tl.at ?_)
  dsimp only
  refine wpAny_holding (wpAny_bind (b1.at ?_))
  dsimp only
  refine wpAny_bind (wpAny_call (codeAny_mono hq fun r s' z => ?_))
  rcases r with e | (v | _ | _ | _) <;> first | exact z | exact z.elim | skip
  obtain ⟨rfl, z⟩ := z
  exact wpAny_pure (wpAny_pure z)
end
noncomputable abbrev excD (C : Addr) (t : Value) (d : Addr) : Obj := { cls := .ref C, dict := some d, data := .fields #[t, .none, .none, .none, .bool false, .none] }
section
variable {prog : Program} {w : World} {A : Around} {E : Value → Shared → Prop} {s : Shared} {K : Frag} {C : Addr} {h₀ : Heap} {L : Addr} {m : PySem.Str → Option Value} {news left : Led}
theorem excinit_L {e : Addr} {t0 v : Value} {Q : Value → Shared → Prop} (X : K.In h₀) (hm : ktsIn K C "Exception" = true) (F : Fr h₀ L s.heap m) (N : News h₀ L s.heap news) (tk : Take1 e (excO C t0) news left)
    (h : ∀ h' t, Fr h₀ L h' m → News h₀ L h' ((e, excO C t) :: left) → Q .none { s with heap := h' }) :
    wpAny (model prog w) A (call (.builtin "Exception.__init__") [.ref e, v]) Q E s := by
  have off : ∀ p ∈ news, p.1 ≠ s.heap.objs.size := fun p hp e => absurd (Heap.lt_size (N p hp).1) (by rw [e]; exact Nat.lt_irrefl _)
  have tk2 : Take1 e (excO C t0) ((s.heap.objs.size, tupO [v]) :: news) ((s.heap.objs.size, tupO [v]) :: left) := .tail (fun q => off _ tk.spec.1 q.symm) tk
  obtain ⟨F1, N1⟩ := led_upd (f := Obj.mapFields fun x => x.setIfInBounds 0 (.ref s.heap.objs.size)) (o' := excO C (.ref s.heap.objs.size)) (F.push (tupO [v])) (N.push F (tupO [v])) tk2 rfl rfl
  have N2 : News h₀ L ((s.heap.push (tupO [v])).update e (Obj.mapFields fun x => x.setIfInBounds 0 (.ref s.heap.objs.size))) ((e, excO C (.ref s.heap.objs.size)) :: left) := fun p hp => N1 p (by
    rcases List.mem_cons.mp hp with rfl | hp
    · exact .head _
    · exact .tail _ (.tail _ hp))
  exact call_excinit (X.keeps F.keep) hm (N _ tk.spec.1).1 rfl rfl (by show 0 < 6; decide) (h _ (.ref s.heap.objs.size) F1 N2)
theorem setexc_L {e : Addr} {t0 v : Value} {cd : ClassData} {name : PySem.Str} {Q : Unit → Shared → Prop} (X : K.In h₀) (F : Fr h₀ L s.heap m) (N : News h₀ L s.heap news) (tk : Take1 e (excO C t0) news left)
    (hs : findIn K (.ref C) "__setattr__" = some (some (.builtin "object.__setattr__"))) (hcd : clsIn K C = some cd) (hpass : ∀ self, refuseLoop self "__setattr__" cd.mro = pure ()) (hobj : mroIn K C (.type "object") = some true) (hdict : cd.hasDict = true) (ht : takerIn K C name = some none)
    (h : ∀ h' d tk, Fr h₀ L h' m → News h₀ L h' ((d, dictOf [{ hash := PyData.keyHash w.params name, key := .str name tk, val := v }] 1) :: (e, excD C t0 d) :: left) → (∀ p ∈ news, p.1 < d) → Q () { s with heap := h', toks := s.toks + 2 }) :
    wpAny (model prog w) A (setAttr (.ref e) name v) Q E s := by
  have off : ∀ p ∈ news, p.1 ≠ s.heap.objs.size := fun p hp e => absurd (Heap.lt_size (N p hp).1) (by rw [e]; exact Nat.lt_irrefl _)
  have tk2 : Take1 e (excO C t0) ((s.heap.objs.size, emptyDict) :: news) ((s.heap.objs.size, emptyDict) :: left) := .tail (fun q => off _ tk.spec.1 q.symm) tk
  obtain ⟨F1, N1⟩ := led_upd (f := fun o => { o with dict := some s.heap.objs.size }) (o' := excD C t0 s.heap.objs.size) (F.push emptyDict) (N.push F emptyDict) tk2 rfl rfl
  have tk3 : Take1 s.heap.objs.size emptyDict ((e, excD C t0 s.heap.objs.size) :: (s.heap.objs.size, emptyDict) :: left) ((e, excD C t0 s.heap.objs.size) :: left) :=
    (.tail (off (e, excO C t0) tk.spec.1) (.head fun p hp => off _ (tk.spec.2 p hp).1))
  have e2 : Obj.putName name (PyData.keyHash w.params name) (.str name (s.toks + 1)) v emptyDict = dictOf [{ hash := PyData.keyHash w.params name, key := .str name (s.toks + 1), val := v }] 1 := putName_dict name _ _ v [] 0
  obtain ⟨F2, N2⟩ := led_upd (f := Obj.putName name (PyData.keyHash w.params name) (.str name (s.toks + 1)) v) F1 N1 tk3 e2 rfl
  exact set_excnew (X.keeps F.keep) (N _ tk.spec.1).1 rfl rfl rfl hs hcd hpass hobj hdict ht (h _ _ _ F2 N2 fun p hp => Heap.lt_size (N p hp).1)
end
theorem halt_pass (self : Value) : refuseLoop self "__setattr__" [.ref 107, .ref 94, .type "Exception", .type "BaseException", .type "object"] = pure () := by
  rw [refuseLoop_ref, refuseLoop_ref]
  exact PySem.F.store_Exception.passes self
set_option maxHeartbeats 4000000 in
theorem faultinit_spec (w : World) (e : Addr) (t0 : Value) (word : PySem.Str) (t : Tok) :
    CSpec w 10 91 [.ref e, .str word t] [(e, excO 107 t0)] (fun _ => True) (fun v T' => v = .none ∧ ∃ t1 d tk, T' = [(d, dictOf [{ hash := PyData.keyHash w.params "word", key := .str "word" tk, val := .str word t }] 1), (e, excD 107 t1 d)]) (fun _ _ _ _ _ => False) := by
  unfold CSpec
  k_fill
  intro dp un gd outer base g mean mg mb s R B hst hsz hN X Tp hd hu hG hok her
  have hb : Binds [(Str.ofString "self", .ref e), (Str.ofString "word", .str word t)] := .mk
  walk_at "mine enter"
  walk_at "mine steps"
  rename_i L h1 F1 N1 l1
  refine' method_type (v := .builtin "Exception.__init__") F1 X ?k1 ?k2 ?k3 ?k4 ?_
  case k1 => first | rfl | kernel_rfl
  case k2 => first | rfl | decide +kernel
  case k3 => first | k_is | rfl | decide +kernel
  case k4 => first | rfl | decide +kernel
  try dsimp only
  walk_at "mine steps"
  refine' excinit_L X ?k1 ?kF ?kN (.head (List.forall_mem_nil _)) ?_
  case kF => k_asm
  case kN => k_asm
  case k1 => first | k_is | rfl
  intro h2 t1 F2 N2
  try dsimp only
  try k_sweep
  try k_fold
  walk_at "mine steps"
  refine' setexc_L X ?kF ?kN (.head (List.forall_mem_nil _)) ?k1 ?k2 ?kp ?k3 ?k4 ?k5 ?_
  case kF => k_asm
  case kN => k_asm
  case k1 => first | k_is | rfl
  case k2 => first | k_is | rfl
  case kp => exact halt_pass
  case k3 => first | k_is | rfl
  case k4 => first | k_is | rfl
  case k5 => first | k_is | rfl
  intro h3 d tk F3 N3 l3
  try dsimp only
  try k_sweep
  try k_fold
  walk_at "mine steps"
  all_goals walk_at "mine end"
  all_goals exact ⟨[(d, _), (e, _)], ⟨rfl, _, _, _, rfl⟩, by walk_at "mine mem"⟩
theorem useCcore {w : World} {d : Nat} {f : Addr} {args : List Value} {T : Led} {G : Heap → Prop} {Ok : Value → Led → Prop} {Er : Heap → Heap → List Env → Addr → Heap → Prop}
    {dp un : Nat} {gd : Option (List Code)} {env : Env} {outer : List Env} {A₀ : Around} {base h₀ : Heap} {L : Addr} {m : Str → Option Value} {news rest : Led} {s : Shared} {mean : ExcName → Option Value} {mg mb : Str → Option Value} {R : Result → Shared → Prop}
    (S : CSpec w d f args T G Ok Er) (B : Below A₀ base outer h₀) (F : Fr h₀ L s.heap m) (N : News h₀ L s.heap news) (X : (Mine.hd.heap_1 w.params).In h₀) (Tp : Top Mine.view (looseW Mine.view [Str.ofString "WORD", Str.ofString "MOST_WORDS"]) mean mg mb h₀)
    (hf : env.frame = some L) (hke : env.scope.kind = .function) (hd : dp + d < 990) (hu : un + 20 * d < 9800)
    (hT : ∀ p ∈ T, p ∈ news) (hR : ∀ p ∈ rest, p ∈ news) (hD : ∀ p ∈ rest, ∀ q ∈ T, p.1 ≠ q.1)
    (hG : ∀ g, (∀ b o, s.heap.get? b = some o → (∀ q ∈ T, b ≠ q.1) → g.get? b = some o) → G g)
    (h : ∀ v T' h' tk', Ok v T' → Fr h₀ L h' m → News h₀ L h' (T' ++ rest) → (∀ p ∈ T', ∀ q ∈ rest, p.1 ≠ q.1) → (∀ p ∈ T', p.1 ≠ L) → R (.ok (.ret v)) { s with heap := h', toks := tk' })
    (hE : ∀ g e h' tk', (∀ b o, s.heap.get? b = some o → (∀ q ∈ T, b ≠ q.1) → g.get? b = some o) → (∀ b o, g.get? b = some o → s.heap.get? b = some o) → (∀ p ∈ rest, g.get? p.1 = some p.2) → Er base g (env :: outer) e h' → g.UpToSlots h' → R (.error (.ref e)) { s with heap := h', toks := tk' }) :
    codeAny (model PySem.Challenge.rw_pq0393_01.row.prog w) (AA dp un gd (env :: outer)) (.call (.ref f) ⟨args, []⟩) R s := by
  have N₁ : News h₀ L s.heap T := fun p hp => N p (hT p hp)
  have nm : ∀ b o, h₀.get? b = some o → b ∉ T.map (·.1) := fun b o e q => by
    obtain ⟨p, hp, rfl⟩ := List.mem_map.mp q
    rw [(N₁ p hp).2.2] at e; cases e
  have hg : ∀ b o, s.heap.get? b = some o → (∀ q ∈ T, b ≠ q.1) → (hideAll s.heap (T.map (·.1))).get? b = some o := fun b o e hn => hideAll_get _ e fun q => by
    obtain ⟨p, hp, hq⟩ := List.mem_map.mp q
    exact hn p hp hq.symm
  obtain ⟨FG, BG, st, -⟩ := groundX (A := AA dp un gd (env :: outer)) (R := fun _ _ => True) B F N₁ rfl hf hke
  refine (S dp un gd (env :: outer) base _ mean mg mb s _ BG (fun b o e => of_hideAll _ e) (hideAll_size _ _) (fun p hp => ⟨(N₁ p hp).1, hideAll_none _ (List.mem_map_of_mem hp)⟩) (X.keeps st) (Tp.keeps st) hd hu (hG _ hg) ?_ ?_)
  · intro v T' h' tk' ok sh nt
    obtain ⟨oL, es, ep, hL, hLd, hLk, hLf⟩ := F.ns
    have nL : ∀ q ∈ T, L ≠ q.1 := fun q hq e => (N₁ q hq).2.1 e.symm
    have hLg := hg L oL hL nL
    refine h v T' h' tk' ok ⟨⟨oL, es, ep, sh L oL hLg, hLd, hLk, hLf⟩, fun b o e => sh b o (st b o e), F.above⟩ ?_ ?_ ?_
    · intro p hp
      rcases List.mem_append.mp hp with hp | hp
      · refine ⟨(nt p hp).1, fun q => ?_, ?_⟩
        · have := (nt p hp).2; rw [q, hLg] at this; cases this
        · cases q : h₀.get? p.1 with
          | none => rfl
          | some o => have := (nt p hp).2; rw [st _ _ q] at this; cases this
      · have z := N p (hR p hp)
        exact ⟨sh _ _ (hg _ _ z.1 fun q hq => hD p hp q hq), z.2⟩
    · intro p hp q hq e
      have := (nt p hp).2
      rw [e, hg _ _ (N q (hR q hq)).1 (fun r hr => hD q hq r hr)] at this; cases this
    · intro p hp e
      have := (nt p hp).2
      rw [e, hLg] at this; cases this
  · intro e h' tk' er up
    exact hE _ e h' tk' hg (fun b o e => of_hideAll _ e) (fun p hp => hg _ _ (N p (hR p hp)).1 fun q hq => hD p hp q hq) er up


/-- Halt(word) in a frame -/
theorem useHalt {w : World} {word : PySem.Str} {t : Tok} {nm q : PySem.Str} {Nn : Addr} {bs bm : List Value} {hdct : Bool} {sn : List PySem.Str} {sub : List Value} {ab : Bool} {col : Option Bool} {dd : Option Addr} {k0 k1 k2 k3 k5 : Option Value}
    {dp un : Nat} {gd : Option (List Code)} {env : Env} {outer : List Env} {A₀ : Around} {base h₀ : Heap} {L : Addr} {m : PySem.Str → Option Value} {news : Led} {s : Shared} {mean : ExcName → Option Value} {mg mb : PySem.Str → Option Value} {Q E : Value → Shared → Prop}
    (hCK : (Mine.hd.heap_1 w.params).lookup 107 = some (excClassObj nm q 107 Nn bs bm hdct sn sub ab col dd k0 k1 k2 k3 k5 "Exception.__new__")) (hb : bm.contains (.type "Exception") = true) (hA : bm.contains (.type "AttributeError") = false) (hN : bm.contains (.type "NameError") = false)
    (hcall : specialIn (Mine.hd.heap_1 w.params) (.ref 107) "__call__" = some (some (.builtin "type.__call__"))) (hinst : instIn (Mine.hd.heap_1 w.params) (.ref 107) (.type "type") = some true) (hself : mroIn (Mine.hd.heap_1 w.params) 107 (.ref 107) = some true) (hi : findIn (Mine.hd.heap_1 w.params) (.ref 107) "__init__" = some (some (.ref 91))) (hfn : typeIn (Mine.hd.heap_1 w.params) (.ref 91) = some (.type "function"))
    (B : Below A₀ base outer h₀) (F : Fr h₀ L s.heap m) (N : News h₀ L s.heap news) (X : (Mine.hd.heap_1 w.params).In h₀) (Tp : Top Mine.view (looseW Mine.view [Str.ofString "WORD", Str.ofString "MOST_WORDS"]) mean mg mb h₀)
    (hf : env.frame = some L) (hke : env.scope.kind = .function) (hd : dp + 1 + 10 < 990) (hu : un + 1 + 200 < 9800)
    (h : ∀ e d t1 tk h' tk', Fr h₀ L h' m → News h₀ L h' ((d, dictOf [{ hash := PyData.keyHash w.params "word", key := .str "word" tk, val := .str word t }] 1) :: (e, excD 107 t1 d) :: news) → (∀ p ∈ news, @Ne Nat p.1 e) → (∀ p ∈ news, @Ne Nat p.1 d) → @Ne Nat d e → Q (.ref e) { s with heap := h', toks := tk' }) :
    wpAny (model PySem.Challenge.rw_pq0393_01.row.prog w) (AA dp un gd (env :: outer)) (call (.ref 107) [.str word t]) Q E s := by
  obtain ⟨hh, g, dr, tt, os⟩ := s
  have XS := X.keeps F.keep
  refine wpAny_call (make_exc XS hCK hb hA hN hcall hinst hself hi hfn (by show 1 ≤ sizeLine; decide) ?_)
  rw [under_mk]
  have N' := (N.push F (tupO [.str word t])).push (F.push _) (excO 107 (.ref hh.objs.size))
  rw [Heap.size_push] at N'
  have off1 : ∀ p ∈ news, @Ne Nat p.1 hh.objs.size := fun p hp e => absurd (Heap.lt_size (N p hp).1) (by rw [e]; exact Nat.lt_irrefl _)
  have off2 : ∀ p ∈ news, @Ne Nat p.1 (hh.objs.size + 1) := fun p hp e => absurd (Heap.lt_size (N p hp).1) (by rw [e]; exact Nat.not_lt.mpr (Nat.le_succ _))
  refine useCcore (news := (hh.objs.size + 1, excO 107 (.ref hh.objs.size)) :: (hh.objs.size, tupO [.str word t]) :: news) (rest := news) (faultinit_spec w (hh.objs.size + 1) (.ref hh.objs.size) word t) B ((F.push _).push _) N' X Tp hf hke hd hu ?_ ?_ ?_ (fun _ _ => trivial) ?_ ?_
  · intro p hp
    rcases List.mem_cons.mp hp with rfl | hp
    · exact .head _
    · cases hp
  · exact fun p hp => .tail _ (.tail _ hp)
  · intro p hp q hq
    rcases List.mem_cons.mp hq with rfl | hq
    · exact off2 p hp
    · cases hq
  · rintro v T' h' tk' ⟨rfl, t1, d, tk, rfl⟩ F' N2 d1 d2
    exact ⟨rfl, h _ d t1 tk h' tk' F' N2 (fun p hp e => d1 _ (.tail _ (.head _)) p hp e.symm) (fun p hp e => d1 _ (.head _) p hp e.symm) (fun q => by
      have a1 := (N2 _ (.head _)).1
      have a2 := (N2 _ (.tail _ (.head _))).1
      dsimp only at a1 a2
      rw [q, a2] at a1
      cases a1)⟩
  · exact fun _ _ _ _ _ _ _ er _ => er.elim
section
variable {prog : Program} {w : World} {A : Around} {E : Value → Shared → Prop} {s : Shared} {env : Env}
variable {nm q : PySem.Str} {C N : Addr} {bs bm : List Value} {hdct : Bool} {sn : List PySem.Str} {sub : List Value} {ab : Bool} {col : Option Bool} {dd : Option Addr} {k0 k1 k2 k3 k5 : Option Value} {newId : String}
theorem raise_made {x : Sem Value} {Q : Flow → Shared → Prop} (hbase : bm.contains (.type "BaseException") = true) (hh : A.handled = none)
    (h : wpAny (model prog w) A x (fun v s₁ => ∃ e t d, v = .ref e ∧ s₁.heap.get? C = some (excClassObj nm q C N bs bm hdct sn sub ab col dd k0 k1 k2 k3 k5 newId) ∧ s₁.heap.get? e = some (excD C t d) ∧ E (.ref e) s₁) E s) :
    wpAny (model prog w) A (raiseStmt env (some x) none) Q E s := by
  have hcB : (Value.ref C :: bm).contains (.type "BaseException") = true := by rw [List.contains_cons, hbase, Bool.or_true]
  unfold raiseStmt
  refine wpAny_bind (wpAny_mono h (fun v s₁ h₁ => ?_) fun _ _ x => x)
  obtain ⟨e, t, d, rfl, hC, he, hE⟩ := h₁
  obtain ⟨hp, g, dr, tk, os⟩ := s₁
  repeat (first | with_reducible refine wpAny_loadPart_at he ?_ | with_reducible refine wpAny_loadPart_at hC ?_ | (with_reducible refine wpAny_isSubtype_exc hC ?_; rw [hcB]) | wp_step)
  exact wpAny_raiseNew_none hh hE
theorem raise_stmt {e : PySem.Expr} {pos : Pos} {Q : Flow → Shared → Prop} (hbase : bm.contains (.type "BaseException") = true) (hh : A.handled = none)
    (h : wpAny (model prog w) A (eval e env) (fun v s₁ => ∃ e t d, v = .ref e ∧ s₁.heap.get? C = some (excClassObj nm q C N bs bm hdct sn sub ab col dd k0 k1 k2 k3 k5 newId) ∧ s₁.heap.get? e = some (excD C t d) ∧ E (.ref e) s₁) E s) :
    wpAny (model prog w) A (exec (.Raise (some e) none pos) env) Q E s := by
  rw [arm_exec_Raise]
  refine wpAny_bind (wpAny_standAt (raise_made (C := C) (nm := nm) (q := q) (N := N) (bs := bs) (bm := bm) (hdct := hdct) (sn := sn) (sub := sub) (ab := ab) (col := col) (dd := dd) (k0 := k0) (k1 := k1) (k2 := k2) (k3 := k3) (k5 := k5) (newId := newId) hbase hh ?_))
  exact wpAny_bind (wpAny_mono h (fun v s₃ h₃ => wpAny_bind (wpAny_standAt (wpAny_pure h₃))) fun _ _ x => x)
end
noncomputable def RaisedD (g : Heap) (l : List Env) (e d : Addr) (news : Led) (h : Heap) : Prop :=
  ∃ B, (∀ b o, g.get? b = some o → b ∉ l.filterMap (·.frame) → B.get? b = some o) ∧ (∀ q ∈ news, B.get? q.1 = some q.2 ∧ g.get? q.1 = none) ∧ FlyD B l e (.ref 107) (some d) .none h
section
variable {M : Model} {A : Around} {E : Value → Shared → Prop} {s' : Shared} {base g G : Heap} {outer : List Env} {L a e d : Addr} {m : PySem.Str → Option Value} {name : PySem.Str} {scope : Scope} {cd : Value} {Q : Unit → Shared → Prop} {news : Led}
theorem leave_raiseD {dO : Obj} {t : Value} (K : Below A base outer g) (F : Fr g L s'.heap m) (N : News g L s'.heap ((d, dO) :: (e, excD 107 t d) :: news)) (hde : @Ne Nat d e) (hne : ∀ p ∈ news, @Ne Nat p.1 e)
    (hQ : ∀ h', RaisedD g outer e d ((d, dO) :: news) h' → g.UpToSlots h' → Q () { s' with heap := h' }) (hk : scope.kind = .function := by rfl) :
    wpAny M (A.deeper (envOf name scope L a cd)) (leaving (envOf name scope L a cd) (.ref e)) Q E s' := by
  have K' := K.push (name := name) (a := a) (cd := cd) F hk
  have he := N _ (.tail _ (.head _))
  have hfs : ∀ env ∈ (envOf name scope L a cd :: outer), ∀ b, env.frame = some b → b ∈ e :: (envOf name scope L a cd :: outer).filterMap (·.frame) := fun env h b hb => .tail _ (List.mem_filterMap.mpr ⟨env, h, hb⟩)
  have sg : ∀ b o, g.get? b = some o → b ∉ outer.filterMap (·.frame) → (hideAll s'.heap (e :: (envOf name scope L a cd :: outer).filterMap (·.frame))).get? b = some o := fun b o q nm => hideAll_get _ (F.keep b o q) fun hm => by
    rcases List.mem_cons.mp hm with z | hm
    · rw [z, he.2.2] at q; cases q
    · rcases kts_mem hm with z | z
      · rw [z, kts_self F] at q; cases q
      · exact nm z
  have hl : ∀ q ∈ (d, dO) :: news, (hideAll s'.heap (e :: (envOf name scope L a cd :: outer).filterMap (·.frame))).get? q.1 = some q.2 ∧ g.get? q.1 = none := fun q hq => by
    have hq1 : q ∈ (d, dO) :: (e, excD 107 t d) :: news := by
      rcases List.mem_cons.mp hq with rfl | hq
      · exact .head _
      · exact .tail _ (.tail _ hq)
    refine ⟨hideAll_get _ (N q hq1).1 fun hm => ?_, (N q hq1).2.2⟩
    rcases List.mem_cons.mp hm with z | hm
    · rcases List.mem_cons.mp hq with rfl | hq
      · exact hde z
      · exact hne q hq z
    · obtain ⟨env, h1, hf⟩ := List.mem_filterMap.mp hm
      rcases List.mem_cons.mp h1 with rfl | h1
      · exact (N q hq1).2.1 (Option.some.inj hf).symm
      · obtain ⟨o, ho, _⟩ := (K.frames.mem (List.mem_filterMap.mpr ⟨env, h1, hf⟩)).2
        rw [(N q hq1).2.2] at ho; cases ho
  refine leaveFirstD (base := hideAll s'.heap (e :: (envOf name scope L a cd :: outer).filterMap (·.frame))) K'.stack (funFrames_hide K'.frames hfs) rfl he.1 (fun b o q => of_hideAll _ q) (hideAll_none _ (.head _)) rfl rfl fun h' x u => ?_
  exact hQ h' ⟨_, sg, hl, x⟩ ((Heap.UpToSlots.of_keeps F.keep).trans u)
theorem leave_onD (K : Below A base outer g) (F : Fr g L G m) (R : RaisedD G (envOf name scope L a cd :: outer) e d news s'.heap) (hsm : G.UpToSlots s'.heap)
    (hQ : ∀ h', RaisedD g outer e d news h' → g.UpToSlots h' → Q () { s' with heap := h' }) :
    wpAny M (A.deeper (envOf name scope L a cd)) (leaving (envOf name scope L a cd) (.ref e)) Q E s' := by
  obtain ⟨B, hBG, hl, hfl⟩ := R
  refine leaveNextD (Around.frames_deeper K.stack) rfl hfl fun h' x u => hQ h' ⟨B, fun b o q nm => hBG b o (F.keep b o q) (fun hm => ?_), fun q hq => ⟨(hl q hq).1, kts_none F.keep (hl q hq).2⟩, x⟩ ((Heap.UpToSlots.of_keeps F.keep).trans (hsm.trans u))
  rcases kts_mem hm with z | z
  · rw [z, kts_self F] at q; cases q
  · exact nm z
end
/-- the dicts of a memory and of a frame -/
noncomputable def memO (w : World) (aB : Addr) (n : Int) (t1 t2 t3 : Tok) : Obj := dictOf [{ hash := PyData.keyHash w.params "octets", key := .str "octets" t1, val := .ref aB }, { hash := PyData.keyHash w.params "words", key := .str "words" t2, val := .int n t3 }] 2
noncomputable def frmE (w : World) (aMsg aSt aMem : Addr) (gas : Int) (aJ : Addr) (tk : Nat → Tok) (tg : Tok) : List DictEntry := [{ hash := PyData.keyHash w.params "message", key := .str "message" (tk 0), val := .ref aMsg }, { hash := PyData.keyHash w.params "code", key := .str "code" (tk 1), val := .bytes #[91] (tk 20) }, { hash := PyData.keyHash w.params "stack", key := .str "stack" (tk 2), val := .ref aSt }, { hash := PyData.keyHash w.params "memory", key := .str "memory" (tk 3), val := .ref aMem }, { hash := PyData.keyHash w.params "pc", key := .str "pc" (tk 4), val := .int 0 (tk 21) }, { hash := PyData.keyHash w.params "gas", key := .str "gas" (tk 5), val := .int gas tg }, { hash := PyData.keyHash w.params "returned", key := .str "returned" (tk 6), val := .bytes #[] (tk 22) }, { hash := PyData.keyHash w.params "output", key := .str "output" (tk 7), val := .bytes #[] (tk 23) }, { hash := PyData.keyHash w.params "jumps", key := .str "jumps" (tk 8), val := .ref aJ }, { hash := PyData.keyHash w.params "is_done", key := .str "is_done" (tk 9), val := .bool false }, { hash := PyData.keyHash w.params "word", key := .str "word" (tk 10), val := .str "" (tk 24) }]
noncomputable def frmO (w : World) (aMsg aSt aMem : Addr) (gas : Int) (aJ : Addr) (tk : Nat → Tok) (tg : Tok) : Obj := dictOf (frmE w aMsg aSt aMem gas aJ tk tg) 11
/-- the words that there would be -/
noncomputable def touchI (n p s : Int) : Int := if s = 0 then n else max n ((p + s + 31) / 32)
theorem okT {a b : Int} {t : Tok} {T news : Led} (e : a = b) (hm : ∀ p ∈ T, p ∈ news) : ∃ T' : Led, (∃ t', Value.int a t = .int b t' ∧ T' = T) ∧ ∀ p ∈ T', p ∈ news := ⟨T, ⟨t, by rw [e], rfl⟩, hm⟩
theorem touch_z {n p s : Int} (h : s = 0) : n = touchI n p s := by unfold touchI; rw [if_pos h]
theorem touch_s {n p s : Int} (h : s ≠ 0) : (if (p + s + 31).fdiv 32 > n then (p + s + 31).fdiv 32 else n) = touchI n p s := by
  unfold touchI; rw [if_neg h, Int.fdiv_eq_ediv_of_nonneg _ (by decide)]; split <;> omega
theorem touch_l {n p s : Int} (h : s ≠ 0) : (if (p + s - 1).fdiv 32 + 1 > n then (p + s - 1).fdiv 32 + 1 else n) = touchI n p s := by
  unfold touchI; rw [if_neg h, Int.fdiv_eq_ediv_of_nonneg _ (by decide)]; split <;> omega
theorem touch_ge {n p s : Int} : n ≤ touchI n p s := by unfold touchI; split <;> omega
set_option maxHeartbeats 4000000 in
theorem touched_spec (w : World) (x dx aB : Addr) (n place size : Int) (t1 t2 t3 tp ts : Tok) :
    CSpec w 10 165 [.ref x, .int place tp, .int size ts] [(x, instObj 210 dx), (dx, memO w aB n t1 t2 t3)] (fun _ => True) (fun v T' => ∃ t', v = .int (touchI n place size) t' ∧ T' = [(x, instObj 210 dx), (dx, memO w aB n t1 t2 t3)]) (fun _ _ _ _ _ => False) := by
  unfold CSpec memO
  k_fill
  intro dp un gd outer base g mean mg mb s R B hst hsz hN X Tp hd hu hG hok her
  have hb : Binds [(Str.ofString "self", .ref x), (Str.ofString "place", .int place tp), (Str.ofString "size", .int size ts)] := .mk
  walk_at "mine enter"
  k_steps
  all_goals walk_at "mine end"
  all_goals refine okT ?_ (by walk_at "mine mem")
  all_goals first | exact touch_z (by assumption) | exact touch_s (by assumption)
set_option maxHeartbeats 4000000 in
theorem touch_spec (w : World) (n place size : Int) (t1 tp ts : Tok) :
    CSpec w 10 355 [.int n t1, .int place tp, .int size ts] [] (fun _ => True) (fun v T' => ∃ t', v = .int (touchI n place size) t' ∧ T' = []) (fun _ _ _ _ _ => False) := by
  unfold CSpec
  k_fill
  intro dp un gd outer base g mean mg mb s R B hst hsz hN X Tp hd hu hG hok her
  have hb : Binds [(Str.ofString "words", .int n t1), (Str.ofString "place", .int place tp), (Str.ofString "size", .int size ts)] := .mk
  walk_at "mine enter"
  k_steps
  all_goals walk_at "mine end"
  all_goals refine okI ?_
  all_goals first | exact touch_z (by assumption) | exact touch_l (by assumption)
theorem words_24 : True := by
  k_with "call ref" => ( k_here; (with_reducible show wpAny _ _ (PySem.call (Value.ref 355) _ _) _ _ _); k_dflt ( refine' useP (touch_spec _ _ _ _ _ _ _) ?kB ?kF ?kN ?kX ?kT ?khf ?khk ?kd ?ku ?_; walk_at "mine p"; k_whole); walk_at "mine p end")
  k_with "call ref" => ( k_here; (with_reducible show wpAny _ _ (PySem.call (Value.ref 165) _ _) _ _ _); k_dflt ( refine' useT (touched_spec _ _ _ _ _ _ _ _ _ _ _ _) (Take.cons ?w40ta (Take.cons ?w40tb Take.nil)) ?kB ?kF ?kN ?kX ?kT ?khf ?khk ?kd ?ku ?kG ?_ ?kE; (case kF => k_asm); (case kN => k_asm); (case w40ta => walk_at "mine take1"); (case w40tb => walk_at "mine take1"); walk_at "mine std"; (case kG => exact fun _ _ => trivial); (case kE => exact fun _ _ _ _ _ _ _ er _ => er.elim); k_whole); intro zqv' zqT' zqh' zqtk' zqok zqF' zqN' zqd1 zqd2; (obtain ⟨zqt', zqe1, zqe2⟩ := zqok); (subst zqe1); (subst zqe2); (clear zqd1 zqd2); (try dsimp only [List.cons_append, List.nil_append, memO] at zqN'); (revert zqh' zqtk' zqF' zqN' zqt'); intros; (try dsimp only); (try k_sweep); (try k_fold))
  trivial
noncomputable abbrev zeros (k : Nat) : Array UInt8 := Array.replicate k 0
/-- Halt(word) raised, the objects T as they were -/
noncomputable def HaltEr (w : World) (word : PySem.Str) (T : Led) (g : Heap) (outer : List Env) (e : Addr) (h' : Heap) : Prop :=
  ∃ d tk t, RaisedD g outer e d ((d, dictOf [{ hash := PyData.keyHash w.params "word", key := .str "word" tk, val := .str word t }] 1) :: T) h'
theorem raise_haltK {prog : Program} {w : World} {A : Around} {E : Value → Shared → Prop} {s : Shared} {env : Env} {K : Frag} {h₀ : Heap} {nm q : PySem.Str} {C N : Addr} {bs bm : List Value} {hdct : Bool} {sn : List PySem.Str} {sub : List Value} {ab : Bool} {col : Option Bool} {dd : Option Addr} {k0 k1 k2 k3 k5 : Option Value} {newId : String} {e : PySem.Expr} {pos : Pos} {Q : Flow → Shared → Prop}
    (X : K.In h₀) (hCK : K.lookup C = some (excClassObj nm q C N bs bm hdct sn sub ab col dd k0 k1 k2 k3 k5 newId)) (hbase : bm.contains (.type "BaseException") = true) (hh : A.handled = none)
    (h : wpAny (model prog w) A (eval e env) (fun v s₁ => ∃ e t d, v = .ref e ∧ h₀.StaysIn s₁.heap ∧ s₁.heap.get? e = some (excD C t d) ∧ E (.ref e) s₁) E s) :
    wpAny (model prog w) A (exec (.Raise (some e) none pos) env) Q E s :=
  raise_stmt hbase hh (wpAny_mono h (fun v s₁ ⟨e, t, d, a, b, c, z⟩ => ⟨e, t, d, a, b _ _ (X _ _ hCK), c, z⟩) fun _ _ x => x)
theorem words_25 : True := by
  k_with "mine stop" => with_reducible show wpAny _ _ (leaving _ _) _ _ _
  k_with "exec Raise some none" => (k_here; (with_reducible show wpAny _ _ (PySem.exec (Stmt.Raise (some (Expr.Call (Expr.Name (Str.ofString "Halt") _) _ [] _)) none _) _) _ _ _); k_dflt (refine' raise_haltK (C := 107) ?w42k1 ?w42k2 ?w42k3 ?w42k4 ?_; (case w42k1 => assumption); (case w42k2 => k_is); (case w42k3 => exact rfl); (case w42k4 => exact rfl); k_whole))
  k_with "call ref" => ( k_here; (with_reducible show wpAny _ _ (PySem.call (Value.ref 107) _ _) _ _ _); k_dflt ( refine' useHalt ?w43a1 ?w43a2 ?w43a3 ?w43a4 ?w43a5 ?w43a6 ?w43a7 ?w43a8 ?w43a9 ?kB ?kF ?kN ?kX ?kT ?khf ?khk ?kd ?ku ?_; (case kF => k_asm); (case kN => k_asm); (case w43a1 => k_is); (case w43a2 => exact rfl); (case w43a3 => exact rfl); (case w43a4 => exact rfl); (case w43a5 => first | k_is | exact rfl); (case w43a6 => first | k_is | exact rfl); (case w43a7 => first | k_is | exact rfl); (case w43a8 => first | k_is | exact rfl); (case w43a9 => first | k_is | exact rfl); walk_at "mine std"; k_whole); intro zqe' zqd' zqt1' zqtk' zqh' zqtz' zqF' zqN' zqne1 zqne2 zqne3; refine' ⟨_, _, _, rfl, ?w43ks, ?w43kg, ?_⟩; (case w43ks => exact Fr.keep zqF'); (case w43kg => exact (zqN' _ (.tail _ (.head _))).1); (revert zqe' zqd' zqt1' zqtk' zqh' zqtz' zqF' zqN' zqne1 zqne2 zqne3); intros; (try dsimp only); (try k_unfold); (try dsimp only))
  k_with "call type:bytes" => (k_here; (with_reducible show wpAny _ _ (PySem.call (Value.type "bytes") [Value.int _ _]) _ _ _); refine call_bytes_n (by omega) (by omega) ?_; intro zqtB; (revert zqtB); intros; (try dsimp only))
  k_with "getMethod" => (k_here; (with_reducible show wpAny _ _ (getMethod (Value.ref _) (Str.ofString "extend") _) _ _ _); refine' getm_ext ?kN ?w45km ?_; (case kN => k_asm); (case w45km => k_mem); (try dsimp only))
  k_with "mine leaveD" => (refine' leave_raiseD ?kB ?kF ?kN ?kd ?w46kn ?_; (case kF => k_asm); (case kN => k_asm); (case kB => assumption); (case kd => assumption); (case w46kn => assumption))
  k_with "mine std2" => ((case kF => k_asm); (case kN => k_asm))
  k_with "mine nils" => (repeat ((try dsimp only); refine S_nil ?_))
  trivial
set_option maxHeartbeats 4000000 in
theorem grown_spec (w : World) (x dx aB : Addr) (b : Array UInt8) (n place size : Int) (t1 t2 t3 tp ts : Tok) (hx1 : @Ne Nat dx x) (hx2 : @Ne Nat aB x) (hx3 : @Ne Nat aB dx) (hn0 : 0 ≤ n) (hn1 : n ≤ 131072) (hb : (b.size : Int) = 32 * n) :
    SSpec w 20 172 [.ref x, .int place tp, .int size ts] [(x, instObj 210 dx), (dx, memO w aB n t1 t2 t3), (aB, baObj b)] (fun _ => True)
      (fun v T' => v = .none ∧ touchI n place size ≤ 131072 ∧ ∃ t1 t2 t3, T' = [(x, instObj 210 dx), (dx, memO w aB (touchI n place size) t1 t2 t3), (aB, baObj (b ++ zeros (32 * (touchI n place size - n)).toNat))])
      (fun _ g outer e h' => 131072 < touchI n place size ∧ HaltEr w "memory" [(x, instObj 210 dx), (dx, memO w aB n t1 t2 t3), (aB, baObj b)] g outer e h') := by
  have hge : n ≤ touchI n place size := touch_ge
  unfold SSpec memO
  k_fill
  intro dp un gd outer base g mean mg mb s R B hst hsz hN X Tp hd hu hG hok her
  have hb : Binds [(Str.ofString "self", .ref x), (Str.ofString "place", .int place tp), (Str.ofString "size", .int size ts)] := .mk
  walk_at "mine enterS"
  with_reducible refine S_cons (wpS_any ?_)
  walk_at "mine stepsS"
  with_reducible refine S_cons (wpS_any ?_)
  walk_at "mine stepsS"
  · walk_at "mine leaveD"
    intro h2 RD up
    exact her _ _ _ ⟨by assumption, _, _, _, RD⟩ up
  · try dsimp only
    refine S_cons (S_If (wpS_any ?_))
    walk_at "mine stepsS"
    · rename_i hlt
      refine S_cons (S_Expr (S_Meth1 (K := Mine.hd.heap_1 w.params) ?_))
      walk_at "mine stepsS"
      refine' ext_L ?kF ?kN ?kt ?kz ?_
      walk_at "mine std2"
      case kt => walk_at "mine take1"
      case kz => rw [Array.size_append, Array.size_replicate, sizeLine_eq]; omega
      intro h2 F2 N2
      refine ⟨rfl, ?_⟩
      try dsimp only
      try k_sweep
      try k_fold
      with_reducible refine S_cons (wpS_any ?_)
      walk_at "mine stepsS"
      walk_at "mine nils"
      walk_at "mine end"
      exact ⟨[(x, _), (dx, _), (aB, _)], ⟨rfl, by omega, _, _, _, rfl⟩, by walk_at "mine mem"⟩
    · rename_i hge2
      have e : touchI n place size = n := by omega
      walk_at "mine nils"
      walk_at "mine end"
      refine ⟨[(x, _), (dx, _), (aB, _)], ⟨rfl, by omega, t1, t2, t3, ?_⟩, by walk_at "mine mem"⟩
      rw [e, show (32 * (n - n)).toNat = 0 from by omega]
      simp
theorem useSX {w : World} {d : Nat} {f : Addr} {args : List Value} {T : Led} {G : Heap → Prop} {Ok : Value → Led → Prop} {Er : Heap → Heap → List Env → Addr → Heap → Prop}
    {dp un : Nat} {gd : Option (List Code)} {env : Env} {outer : List Env} {A₀ : Around} {base h₀ : Heap} {L : Addr} {m : Str → Option Value} {news rest : Led} {s : Shared} {mean : ExcName → Option Value} {mg mb : Str → Option Value} {Q E : Value → Shared → Prop}
    (S : SSpec w d f args T G Ok Er) (tk : Take T news rest) (B : Below A₀ base outer h₀) (F : Fr h₀ L s.heap m) (N : News h₀ L s.heap news) (X : (Mine.hd.heap_1 w.params).In h₀) (Tp : Top Mine.view (looseW Mine.view [Str.ofString "WORD", Str.ofString "MOST_WORDS"]) mean mg mb h₀)
    (hf : env.frame = some L) (hke : env.scope.kind = .function) (hd : dp + d < 990) (hu : un + 20 * d < 9800)
    (hG : ∀ g, (∀ b o, s.heap.get? b = some o → (∀ q ∈ T, b ≠ q.1) → g.get? b = some o) → G g)
    (h : ∀ v T' h' tk', Ok v T' → Fr h₀ L h' m → News h₀ L h' (T' ++ rest) → (∀ p ∈ T', ∀ q ∈ rest, p.1 ≠ q.1) → (∀ p ∈ T', p.1 ≠ L) → Q v { s with heap := h', toks := tk' })
    (hE : ∀ g e h' tk', Fr h₀ L g m → (∀ p ∈ rest, g.get? p.1 = some p.2) → Er base g (env :: outer) e h' → g.UpToSlots h' → E (.ref e) { s with heap := h', toks := tk' }) :
    wpS (model PySem.Challenge.rw_pq0393_01.row.prog w) (AA dp un gd (env :: outer)) (call (.ref f) args) Q E s := by
  have hT := tk.spec.1
  refine useST S tk B F N X Tp hf hke hd hu hG h fun g e h' tk' k1 k2 k3 er up => hE g e h' tk' ?_ k3 er up
  obtain ⟨oL, es, ep, hL, hLd, hLk, hLf⟩ := F.ns
  refine ⟨⟨oL, es, ep, k1 L oL hL fun q hq e => (N q (hT q hq)).2.1 e.symm, hLd, hLk, hLf⟩, fun b o z => k1 b o (F.keep b o z) fun q hq e => ?_, F.above⟩
  have := (N q (hT q hq)).2.2
  rw [← e, z] at this
  cases this
theorem words_26 : True := by
  k_with "mine S grown" => ( refine' useSX (grown_spec _ _ _ _ _ _ _ _ _ _ _ _ _ ?w49s1 ?w49s2 ?w49s3 ?w49s4 ?w49s5 ?w49s6) (Take.cons ?w49ta (Take.cons ?w49tb (Take.cons ?w49tc Take.nil))) ?kB ?kF ?kN ?kX ?kT ?khf ?khk ?kd ?ku ?kG ?_ ?kE; (case kF => k_asm); (case kN => k_asm); (case w49ta => walk_at "mine take1"); (case w49tb => walk_at "mine take1"); (case w49tc => walk_at "mine take1"); (case w49s1 => k_ne); (case w49s2 => k_ne); (case w49s3 => k_ne); (case w49s4 => assumption); (case w49s5 => assumption); (case w49s6 => assumption); walk_at "mine std"; (case kG => exact fun _ _ => trivial))
  k_with "mine onD" => (refine' leave_onD ?kB ?kF ?w50kR ?ku ?_; (case kF => assumption); (case kB => assumption); (case w50kR => assumption); (case ku => assumption))
  trivial
set_option maxHeartbeats 4000000 in
theorem meminit_spec (w : World) (x dx : Addr) (hxd : @Ne Nat dx x) :
    SSpec w 10 158 [.ref x] [(x, instObj 210 dx), (dx, emptyDict)] (fun _ => True) (fun v T' => v = .none ∧ ∃ aB t1 t2 t3, @Ne Nat aB x ∧ @Ne Nat aB dx ∧ T' = [(x, instObj 210 dx), (dx, memO w aB 0 t1 t2 t3), (aB, baObj #[])]) (fun _ _ _ _ _ => False) := by
  unfold SSpec memO
  k_fill
  intro dp un gd outer base g mean mg mb s R B hst hsz hN X Tp hd hu hG hok her
  have hb : Binds [(Str.ofString "self", .ref x)] := .mk
  walk_at "mine enterS"
  refine S_cons (S_AssignAttr (S_Call0 (K := Mine.hd.heap_1 w.params) ?_))
  walk_at "mine stepsS"
  refine' ba0_L ?kF ?kN ?_
  walk_at "mine std2"
  intro aB h1 F1 N1 l2
  have n1 : @Ne Nat aB x := Ne.symm (Nat.ne_of_lt (l2 _ (.head _)))
  have n2 : @Ne Nat aB dx := Ne.symm (Nat.ne_of_lt (l2 _ (.tail _ (.head _))))
  k_lt l2
  try dsimp only
  try k_sweep
  try k_fold
  walk_at "mine stepsS"
  with_reducible refine S_cons (wpS_any ?_)
  walk_at "mine stepsS"
  walk_at "mine nils"
  walk_at "mine end"
  exact ⟨[(x, _), (dx, _), (aB, _)], ⟨rfl, aB, _, _, _, n1, n2, rfl⟩, by walk_at "mine mem"⟩
theorem clip_in {n : Nat} {x : Int} (h0 : 0 ≤ x) (h1 : x ≤ n) : clipAt n x = x.toNat := by
  unfold clipAt
  rw [if_neg (Int.not_lt.mpr h0), Int.min_eq_left h1, Int.max_eq_right h0]
theorem picked_ext {b : Array UInt8} {lo hi : Int} (h0 : 0 ≤ lo) (h1 : lo ≤ hi) (h2 : hi ≤ b.size) : KBy.picked b (some lo) (some hi) = b.extract lo.toNat hi.toNat := by
  rw [KBc.picked_eq]
  simp only [Option.elim_some, clip_in h0 (Int.le_trans h1 h2), clip_in (Int.le_trans h0 h1) h2]
  apply Array.ext'
  simp only [Array.toList_extract, List.extract_eq_take_drop]
theorem size_most {b : Array UInt8} {k : Int} (hb : (b.size : Int) = 32 * k) (h : k ≤ 131072) : b.size ≤ 16777216 - 12582912 :=
  Int.ofNat_le.mp (by rw [hb]; exact Int.mul_le_mul_of_nonneg_left h (by decide))
theorem size_line {b : Array UInt8} {k : Int} (hb : (b.size : Int) = 32 * k) (h : k ≤ 131072) : b.size ≤ sizeLine := by
  rw [sizeLine_eq]; exact Nat.le_trans (size_most hb h) (by decide)
theorem touch_cover {n p s : Int} (h : s ≠ 0) : p + s ≤ 32 * touchI n p s := by unfold touchI; rw [if_neg h]; omega
theorem touch_none {n p s : Int} (h : s = 0) : touchI n p s = n := (touch_z h).symm
theorem zeros_none {b : Array UInt8} {n k : Int} (h : k = n) : b ++ zeros (32 * (k - n)).toNat = b := by
  rw [h, show (32 * (n - n)).toNat = 0 from by omega]; simp
theorem grown_size {b : Array UInt8} {n k : Int} (hb : (b.size : Int) = 32 * n) (h : n ≤ k) : ((b ++ zeros (32 * (k - n)).toNat).size : Int) = 32 * k := by
  rw [Array.size_append, Array.size_replicate]; omega
theorem exB {a b : Array UInt8} {t : Tok} (e : a = b) : ∃ tB, Value.bytes a t = .bytes b tB := ⟨t, by rw [e]⟩
theorem baPut_none {b : Array UInt8} {p : Nat} {c : Array UInt8} (h : c.size = 0) : baPut b c p (p + c.size) = b := by
  unfold baPut
  rw [h, Nat.add_zero, Array.size_eq_zero_iff.mp h, Array.append_empty, Array.extract_append_extract, Nat.zero_min]
  exact Array.extract_eq_self_of_le (Nat.le_max_right _ _)
theorem words_27 : True := by
  k_with "subscriptTail" => ( k_here; (with_reducible show wpAny _ _ (subscriptTail _ (PySem.Expr.Slice _ _ none _) (Value.ref _) (Value.ref _)) _ _ _); k_dflt (refine' getslice_L (s := ⟨_, _, _, _, _⟩) ?w51F ?w51N ?w51m ?w51p ?w51q ?w51z ?_ ?w51s ?w51t; (case w51F => k_asm); (case w51N => k_asm); (case w51m => k_mem); (case w51p => kmk_part); (case w51q => kmk_part); (case w51z => first | exact size_line (by assumption) (by assumption) | (rw [sizeLine_eq]; omega)); (case w51s => with_unfolding_all rfl); (case w51t => kmk_pure)); intro zqx' zqh' zqF' zqN' zql1; (try k_lt zql1); (revert zqx' zqh' zqF' zqN' zql1); intros; (try k_sweep))
  k_with "call type:bytes" => ( k_here; (with_reducible show wpAny _ _ (PySem.call (Value.type "bytes") [Value.ref _]) _ _ _); refine' call_bytes_ba (News.get ?kN ?w52km) ?w52kz ?_; (case kN => k_asm); (case w52km => k_mem); (case w52kz => (refine Nat.le_trans (KBc.size_picked_le _ _ _) ?_; first | exact size_line (by assumption) (by assumption) | (rw [sizeLine_eq]; omega))); intro zqtB; (revert zqtB); intros; (try dsimp only))
  trivial
set_option maxHeartbeats 4000000 in
theorem read_spec (w : World) (x dx aB : Addr) (b : Array UInt8) (n place size : Int) (t1 t2 t3 tp ts : Tok) (hx1 : @Ne Nat dx x) (hx2 : @Ne Nat aB x) (hx3 : @Ne Nat aB dx) (hn0 : 0 ≤ n) (hn1 : n ≤ 131072) (hb : (b.size : Int) = 32 * n) (hp : 0 ≤ place) (hs : 0 ≤ size) :
    SSpec w 30 179 [.ref x, .int place tp, .int size ts] [(x, instObj 210 dx), (dx, memO w aB n t1 t2 t3), (aB, baObj b)] (fun _ => True)
      (fun v T' => touchI n place size ≤ 131072 ∧ (∃ tB, v = .bytes ((b ++ zeros (32 * (touchI n place size - n)).toNat).extract place.toNat (place + size).toNat) tB) ∧ ∃ t1 t2 t3, T' = [(x, instObj 210 dx), (dx, memO w aB (touchI n place size) t1 t2 t3), (aB, baObj (b ++ zeros (32 * (touchI n place size - n)).toNat))])
      (fun _ g outer e h' => 131072 < touchI n place size ∧ HaltEr w "memory" [(x, instObj 210 dx), (dx, memO w aB n t1 t2 t3), (aB, baObj b)] g outer e h') := by
  have hge : n ≤ touchI n place size := touch_ge
  unfold SSpec memO
  k_fill
  intro dp un gd outer base g mean mg mb s R B hst hsz hN X Tp hd hu hG hok her
  have hb : Binds [(Str.ofString "self", .ref x), (Str.ofString "place", .int place tp), (Str.ofString "size", .int size ts)] := .mk
  walk_at "mine enterS"
  with_reducible refine S_cons (wpS_any ?_)
  walk_at "mine stepsS"
  · walk_at "mine end"
    have e := touch_none (n := n) (p := place) (by assumption)
    refine' ⟨[(x, _), (dx, _), (aB, _)], ⟨by omega, exB ?ha, t1, t2, t3, ?hb⟩, by walk_at "mine mem"⟩
    case ha =>
      rw [zeros_none e, show size = 0 from by assumption, Int.add_zero]; simp; exact Nat.min_le_left _ _
    case hb => rw [zeros_none e, e]
  · try dsimp only
    refine S_cons (S_Expr (S_Meth1 (K := Mine.hd.heap_1 w.params) ?_))
    walk_at "mine stepsS"
    walk_at "mine S grown"
    case kE =>
      rintro G e h2 tk2 FG - ⟨hbig, d, tk, t, RD⟩ up
      dsimp only
      walk_at "mine onD"
      intro h3 RD3 up3
      exact her _ _ _ ⟨hbig, d, tk, t, RD3⟩ up3
    rintro v T' h2 tk2 ⟨rfl, hsm, t1, t2, t3, rfl⟩ F2 N2 d1 d2
    clear d1 d2
    refine ⟨rfl, ?_⟩
    try dsimp only [List.cons_append, List.nil_append, memO] at N2
    try dsimp only
    try k_sweep
    try k_fold
    with_reducible refine S_cons (wpS_any ?_)
    have hb2 := grown_size (k := touchI n place size) (by assumption) hge
    generalize hB : b ++ zeros (32 * (touchI n place size - n)).toNat = b2 at *
    walk_at "mine stepsS"
    walk_at "mine end"
    have hc := touch_cover (n := n) (p := place) (s := size) (by assumption)
    exact ⟨[(x, _), (dx, _), (aB, _)], ⟨hsm, exB (picked_ext hp (Int.le_add_of_nonneg_right hs) (by rw [hb2]; exact hc)), t1, t2, t3, rfl⟩, by walk_at "mine mem"⟩
theorem setsliceP_L {prog : Program} {w : World} {A : Around} {E : Value → Shared → Prop} {s : Shared} {h₀ : Heap} {L : Addr} {m : PySem.Str → Option Value} {news left : Led} {a : Addr} {b c : Array UInt8} {t : Tok} {l u : Value} {lo hi : Int} {Q : Unit → Shared → Prop} (F : Fr h₀ L s.heap m) (N : News h₀ L s.heap news) (tk : Take1 a (baObj b) news left) (hl : IsPart l (some lo)) (hu : IsPart u (some hi))
    (h0 : 0 ≤ lo) (h1 : hi = lo + c.size) (h2 : hi ≤ b.size) (hz : b.size ≤ sizeLine)
    (h : ∀ h', Fr h₀ L h' m → News h₀ L h' ((a, baObj (baPut b c lo.toNat hi.toNat)) :: left) → Q () { s with heap := h' }) :
    wpS (model prog w) A (setItem (.ref a) (.ref s.heap.objs.size) (.bytes c t)) Q E { s with heap := s.heap.push { cls := .type "slice", data := .fields #[l, u, .none] } } :=
  setslice_L (s := { s with heap := s.heap.push { cls := .type "slice", data := .fields #[l, u, .none] } }) (F.push _) (News.pushKeep N _) tk (Heap.IsSliceOf.new _ _ _ _) hl hu h0 h1 h2 hz h
set_option maxHeartbeats 4000000 in
theorem write_spec (w : World) (x dx aB : Addr) (b c : Array UInt8) (n place : Int) (t1 t2 t3 tp ts : Tok) (hx1 : @Ne Nat dx x) (hx2 : @Ne Nat aB x) (hx3 : @Ne Nat aB dx) (hn0 : 0 ≤ n) (hn1 : n ≤ 131072) (hb : (b.size : Int) = 32 * n) (hp : 0 ≤ place) (hs : c.size ≤ 1000) :
    SSpec w 30 186 [.ref x, .int place tp, .bytes c ts] [(x, instObj 210 dx), (dx, memO w aB n t1 t2 t3), (aB, baObj b)] (fun _ => True)
      (fun v T' => v = .none ∧ touchI n place c.size ≤ 131072 ∧ ∃ t1 t2 t3, T' = [(x, instObj 210 dx), (dx, memO w aB (touchI n place c.size) t1 t2 t3), (aB, baObj (baPut (b ++ zeros (32 * (touchI n place c.size - n)).toNat) c place.toNat (place.toNat + c.size)))])
      (fun _ g outer e h' => 131072 < touchI n place c.size ∧ HaltEr w "memory" [(x, instObj 210 dx), (dx, memO w aB n t1 t2 t3), (aB, baObj b)] g outer e h') := by
  have hge : n ≤ touchI n place c.size := touch_ge
  unfold SSpec memO
  k_fill
  intro dp un gd outer base g mean mg mb s R B hst hsz hN X Tp hd hu hG hok her
  have hb : Binds [(Str.ofString "self", .ref x), (Str.ofString "place", .int place tp), (Str.ofString "octets", .bytes c ts)] := .mk
  walk_at "mine enterS"
  refine S_cons (S_If (wpS_any ?_))
  walk_at "mine stepsS"
  · refine S_cons (S_Expr (S_Meth1 (K := Mine.hd.heap_1 w.params) ?_))
    walk_at "mine stepsS"
    walk_at "mine S grown"
    case kE =>
      rintro G e h2 tk2 FG - ⟨hbig, d, tk, t, RD⟩ up
      dsimp only
      walk_at "mine onD"
      intro h3 RD3 up3
      exact her _ _ _ ⟨hbig, d, tk, t, RD3⟩ up3
    rintro v T' h2 tk2 ⟨rfl, hsm, t1, t2, t3, rfl⟩ F2 N2 d1 d2
    clear d1 d2
    refine ⟨rfl, ?_⟩
    try dsimp only [List.cons_append, List.nil_append, memO] at N2
    try dsimp only
    try k_sweep
    try k_fold
    have hb2 := grown_size (k := touchI n place c.size) (by assumption) hge
    generalize hB : b ++ zeros (32 * (touchI n place c.size - n)).toNat = b2 at *
    refine S_cons (S_AssignSub ?_)
    walk_at "mine stepsS"
    have hc := touch_cover (n := n) (p := place) (s := c.size) (by omega)
    dsimp only
    refine' setsliceP_L (s := ⟨_, _, _, _, _⟩) ?kF ?kN ?kt ?kp ?kq ?k0 ?k1 ?k2 ?kz ?_
    walk_at "mine std2"
    case kt => walk_at "mine take1"
    case kp => kmk_part
    case kq => kmk_part
    case k0 => assumption
    case k1 => rfl
    case k2 => rw [hb2]; exact hc
    case kz => exact size_line hb2 hsm
    intro h3 F3 N3
    try dsimp only
    have e : (place + (c.size : Int)).toNat = place.toNat + c.size := add_toNat hp
    rw [e] at N3
    walk_at "mine nils"
    walk_at "mine end"
    exact ⟨[(x, _), (dx, _), (aB, _)], ⟨rfl, hsm, t1, t2, t3, rfl⟩, by walk_at "mine mem"⟩
  · walk_at "mine nils"
    walk_at "mine end"
    have z : c.size = 0 := by omega
    have e := touch_none (n := n) (p := place) (s := c.size) (by omega)
    refine' ⟨[(x, _), (dx, _), (aB, _)], ⟨rfl, by omega, t1, t2, t3, ?hb⟩, by walk_at "mine mem"⟩
    case hb => rw [zeros_none e, baPut_none z, e]
set_option maxHeartbeats 4000000 in
theorem put_spec (w : World) (x dx aB : Addr) (b : Array UInt8) (n place o : Int) (t1 t2 t3 tp ts : Tok) (hx1 : @Ne Nat dx x) (hx2 : @Ne Nat aB x) (hx3 : @Ne Nat aB dx) (hn0 : 0 ≤ n) (hn1 : n ≤ 131072) (hb : (b.size : Int) = 32 * n) (hp : 0 ≤ place) :
    SSpec w 30 207 [.ref x, .int place tp, .int o ts] [(x, instObj 210 dx), (dx, memO w aB n t1 t2 t3), (aB, baObj b)] (fun _ => True)
      (fun v T' => v = .none ∧ touchI n place 1 ≤ 131072 ∧ ∃ t1 t2 t3, T' = [(x, instObj 210 dx), (dx, memO w aB (touchI n place 1) t1 t2 t3), (aB, baObj ((b ++ zeros (32 * (touchI n place 1 - n)).toNat).setIfInBounds place.toNat (o % 256).toNat.toUInt8))])
      (fun _ g outer e h' => 131072 < touchI n place 1 ∧ HaltEr w "memory" [(x, instObj 210 dx), (dx, memO w aB n t1 t2 t3), (aB, baObj b)] g outer e h') := by
  have hge : n ≤ touchI n place 1 := touch_ge
  unfold SSpec memO
  k_fill
  intro dp un gd outer base g mean mg mb s R B hst hsz hN X Tp hd hu hG hok her
  have hb : Binds [(Str.ofString "self", .ref x), (Str.ofString "place", .int place tp), (Str.ofString "octet", .int o ts)] := .mk
  walk_at "mine enterS"
  refine S_cons (S_Expr (S_Meth1 (K := Mine.hd.heap_1 w.params) ?_))
  walk_at "mine stepsS"
  walk_at "mine S grown"
  case kE =>
    rintro G e h2 tk2 FG - ⟨hbig, d, tk, t, RD⟩ up
    dsimp only
    walk_at "mine onD"
    intro h3 RD3 up3
    exact her _ _ _ ⟨hbig, d, tk, t, RD3⟩ up3
  rintro v T' h2 tk2 ⟨rfl, hsm, t1, t2, t3, rfl⟩ F2 N2 d1 d2
  clear d1 d2
  refine ⟨rfl, ?_⟩
  try dsimp only [List.cons_append, List.nil_append, memO] at N2
  try dsimp only
  try k_sweep
  try k_fold
  have hb2 := grown_size (k := touchI n place 1) (by assumption) hge
  generalize hB : b ++ zeros (32 * (touchI n place 1 - n)).toNat = b2 at *
  with_reducible refine S_cons (wpS_any ?_)
  walk_at "mine stepsS"
  have hc := touch_cover (n := n) (p := place) (s := 1) (by decide)
  dsimp only
  refine' setat_L ?kF ?kN ?kt ?h0 ?h1 ?hz ?x0 ?x1 ?_
  walk_at "mine std2"
  case kt => walk_at "mine take1"
  case h0 => assumption
  case h1 => exact Int.lt_of_lt_of_le (Int.lt_succ _) (by rw [hb2]; exact hc)
  case hz => exact size_line hb2 hsm
  case x0 => exact Int.fmod_nonneg_of_pos _ (by decide)
  case x1 => exact Int.fmod_lt_of_pos _ (by decide)
  intro h3 F3 N3
  rw [Int.fmod_eq_emod_of_nonneg _ (by decide)] at N3
  try dsimp only
  walk_at "mine nils"
  walk_at "mine end"
  exact ⟨[(x, _), (dx, _), (aB, _)], ⟨rfl, hsm, t1, t2, t3, rfl⟩, by walk_at "mine mem"⟩
section
variable {prog : Program} {w : World} {M : Model} {A : Around} {E : Value → Shared → Prop} {s : Shared}
theorem to_big32 {x : Int} {t u v : Tok} {Q : Value → Shared → Prop} (h0 : 0 ≤ x) (h1 : x < 256 ^ 32) (h : ∀ (b : Array UInt8) t' k', KBw.bInts b = (KTBy.little 32 x).reverse → Q (.bytes b t') { s with toks := k' }) :
    wpAny (model prog w) A (call (.builtin "int.to_bytes") [.int x t, .int 32 u, .str (PySem.Str.ofString "big") v]) Q E s := by
  refine wpAny_call_entry KTBy.slot (typeIs_int s x t) KTBy.entry ?_ (KTBy.args _ _ _)
  have hb : Builtin.Int.intBits x ≤ 8 * 32 := KTBy.bits_le (k := 32) rfl h0 h1
  show wpAny _ _ (Builtin.Int.intOfSelf (.int x t) >>= fun y => _) _ _ s
  refine wpAny_bind (wpAny_of_eq (a := x) rfl ?_)
  show wpAny _ _ (Builtin.Int.intBindNamed "to_bytes" ["length", "byteorder", "signed"] 0 2 [.int 32 u, .str (PySem.Str.ofString "big") v] [] >>= fun l => _) _ _ s
  refine wpAny_bind (wpAny_of_eq (a := [some (.int 32 u), some (.str (PySem.Str.ofString "big") v), none]) (by kernel_rfl) ?_)
  show wpAny _ _ (Builtin.Int.intIndex "int.to_bytes" (.int 32 u) >>= fun n => _) _ _ s
  refine wpAny_bind (wpAny_of_eq (a := (32 : Int)) rfl ?_)
  refine KTBy.if_not (by decide) ?_
  refine wpAny_bind (wpAny_of_eq (a := PySem.Str.ofString "big") (by kernel_rfl) ?_)
  refine wpAny_bind (wpAny_of_eq (a := false) rfl ?_)
  refine wpAny_bind (wpAny_of_eq (a := false) (by kernel_rfl) ?_)
  refine wpAny_ite_false (decide_eq_false (show ¬ ((32 : Int) < 0) by omega)) ?_
  refine wpAny_ite_false (decide_eq_false (show ¬ ((32 : Int) > 2 ^ 63 - 1 - 33) by omega)) ?_
  refine wpAny_ite_false (decide_eq_false (show ¬ ((32 : Int) > (sizeLine : Int)) by rw [sizeLine_eq]; omega)) ?_
  refine KTBy.if_not (by show (decide (x < 0) && !false) = false; rw [decide_eq_false (show ¬ x < 0 by omega)]; rfl) ?_
  refine KTBy.if_not (by show (_ && decide ((Builtin.Int.intBits x : Int) > 8 * (32 : Int))) = false; rw [decide_eq_false (show ¬ ((Builtin.Int.intBits x : Int) > 8 * (32 : Int)) by omega), Bool.and_false]) ?_
  refine wpAny_bind (wpAny_mkBytes (wpAny_pure ⟨_, rfl, h _ _ _ ?_⟩) (by show (List.reverse (KTBy.low x 32)).length ≤ sizeLine; rw [List.length_reverse, KTBy.low_length, sizeLine_eq]; omega))
  show (List.map (fun c : UInt8 => ((c.toNat : Nat) : Int)) (List.reverse (KTBy.low x 32))) = (KTBy.little 32 x).reverse
  rw [List.map_reverse, KTBy.low_ints h0 h1, ← KTBy.little_eq]
theorem grown_int {n : Nat} {Q : Value → Shared → Prop} (hn : n < 256 ^ 32) (h : Q (.int (n : Int) s.toks) { s with toks := s.toks + 1 }) : wpAny M A (mkIntGrown (n : Int)) Q E s := by
  unfold mkIntGrown
  have hl : ¬ ((n : Int).natAbs.log2 ≥ bitsLine) := by
    rw [Int.natAbs_natCast]
    have hb : bitsLine = 134217728 := by first | rfl | decide
    by_cases hz : n = 0
    · subst hz; rw [hb]; decide
    · have h1 : n.log2 < 256 := (Nat.log2_lt hz).mpr (Nat.lt_of_lt_of_le hn (by decide +kernel))
      omega
  rw [if_neg hl]
  exact wpAny_mkInt h
theorem from_big32 {b : Array UInt8} {t u : Tok} {P : PySem.Fin → Shared → Prop} (hl : b.size = 32) (h : P (.done (.ret (.int (KFB.value (KBw.bInts b)) s.toks))) { s with toks := s.toks + 1 }) :
    wpAny M A (Builtin.«int.from_bytes» ⟨[.type "int", .bytes b t, .str (PySem.Str.ofString "big") u], []⟩) P E s := by
  have hv : ((b.toList.foldl (fun (acc : Nat) (b : UInt8) => acc * 256 + b.toNat) 0 : Nat) : Int) = KFB.value (KBw.bInts b) := KFB.fold_cast b.toList 0
  have hn : b.toList.foldl (fun (acc : Nat) (b : UInt8) => acc * 256 + b.toNat) 0 < 256 ^ 32 := by
    have h1 := KFB.fold_lt b.toList 0
    rwa [Nat.zero_add, Nat.one_mul, Array.length_toList, hl] at h1
  unfold Builtin.«int.from_bytes»
  refine wpAny_bind (wpAny_of_eq (a := true) KFB.type_int ?_)
  refine KFB.if_not rfl ?_
  refine wpAny_bind (wpAny_of_eq (a := true) F.conv_sub_int ?_)
  refine KFB.if_not rfl ?_
  refine wpAny_bind (wpAny_of_eq (a := [some (.bytes b t), some (.str (PySem.Str.ofString "big") u), none]) (by kernel_rfl) ?_)
  refine wpAny_bind (wpAny_of_eq (a := PySem.Str.ofString "big") (by kernel_rfl) ?_)
  refine wpAny_bind (wpAny_of_eq (a := false) rfl ?_)
  refine wpAny_bind (wpAny_of_eq (a := false) (by kernel_rfl) ?_)
  refine wpAny_bind (wpAny_of_eq (a := b) rfl ?_)
  show wpAny _ _ (mkIntGrown (b.toList.foldl (fun (acc : Int) (b : UInt8) => acc * 256 + (b.toNat : Int)) ((0 : Nat) : Int)) >>= fun v => _) _ _ _
  rw [KFB.foldI_eq]
  refine wpAny_bind (grown_int hn ?_)
  rw [hv]
  refine KFB.if_so (by decide +kernel) ?_
  exact wpAny_bind (wpAny_pure (wpAny_pure h))
theorem call_from32 {h₀ : Heap} {L : Addr} {news : Led} {x : Addr} {b : Array UInt8} {t u : Tok} {Q : Value → Shared → Prop} (N : News h₀ L s.heap news) (hm : (x, KFB.bound) ∈ news) (hl : b.size = 32)
    (h : ∀ t' k, Q (.int (KFB.value (KBw.bInts b)) t') { s with toks := k }) : wpAny (model prog w) A (call (.ref x) [.bytes b t, .str (PySem.Str.ofString "big") u]) Q E s :=
  KFB.call_of (KFB.at_of N hm) (fun z => from_big32 hl z) (h _ _)
theorem sliceb_L {value slice : PySem.Expr} {h₀ : Heap} {L : Addr} {m : PySem.Str → Option Value} {news : Led} {b : Array UInt8} {t : Tok} {l u : Value} {lo hi : Option Int} {Q : Value → Shared → Prop} (F : Fr h₀ L s.heap m) (N : News h₀ L s.heap news) (hl : IsPart l lo) (hu : IsPart u hi) (hz : b.size ≤ 16777216)
    (h : ∀ h' t' k, Fr h₀ L h' m → News h₀ L h' news → Q (.bytes (KBy.picked b lo hi) t') { s with heap := h', toks := k })
    (hs : subscripted slice false (.bytes b t) (.ref s.heap.objs.size) = operate [.ref s.heap.objs.size, .bytes b t] (getItem (.bytes b t) (.ref s.heap.objs.size)) := by with_unfolding_all rfl)
    (ht : ∀ r, letTemporaryGo value (.bytes b t) r = pure () := by intro _; with_unfolding_all rfl) :
    wpAny (model prog w) A (subscriptTail value slice (.bytes b t) (.ref s.heap.objs.size)) Q E { s with heap := s.heap.push { cls := .type "slice", data := .fields #[l, u, .none] } } :=
  KBc.slice_K F N rfl hl hu (by rw [KBw.ints_length]; exact hz) (fun h' t' k F' N' _ => h h' t' k F' N') hs ht
end
theorem words_28 : True := by
  k_with "call builtin:int.to_bytes" => (k_here; (with_reducible show wpAny _ _ (PySem.call (Value.builtin "int.to_bytes") [Value.int _ _, Value.int _ _, Value.str _ _]) _ _ _); (with_unfolding_all refine' to_big32 ?w53h0 ?w53h1 ?_); (case w53h0 => walk_at "mine ge0"); (case w53h1 => walk_at "mine ge0"); intro zqbB zqtB zqkB zqhB; (revert zqbB zqtB zqkB zqhB); intros)
  k_with "call ref" => ( k_here; (with_reducible show wpAny _ _ (PySem.call (Value.ref _) [Value.bytes _ _, Value.str _ _]) _ _ _); (with_unfolding_all refine' call_from32 ?kN ?w54km ?w54kz ?_); (case kN => k_asm); (case w54km => k_mem); (case w54kz => assumption); intro zqtI zqkI; (revert zqtI zqkI); intros; (try dsimp only))
  k_with "subscriptTail" => ( k_here; (with_reducible show wpAny _ _ (subscriptTail _ (PySem.Expr.Slice _ _ none _) (Value.bytes _ _) (Value.ref _)) _ _ _); k_dflt (refine' sliceb_L (s := ⟨_, _, _, _, _⟩) ?w55F ?w55N ?w55p ?w55q ?w55z ?_ ?w55s ?w55t; (case w55F => k_asm); (case w55N => k_asm); (case w55p => kmk_part); (case w55q => kmk_part); (case w55z => omega); (case w55s => with_unfolding_all rfl); (case w55t => kmk_pure)); intro zqh' zqtB zqkB zqF' zqN'; (revert zqh' zqtB zqkB zqF' zqN'); intros; (try k_sweep))
  trivial
theorem picked_all {b : Array UInt8} (h : b.size = 32) : KBy.picked b (some (-32)) none = b := by
  rw [KBc.picked_eq]
  have e1 : clipAt b.size (-32) = 0 := by unfold clipAt; split <;> omega
  simp only [Option.elim_some, Option.elim_none, e1, List.drop_zero, Nat.sub_zero]
  rw [List.take_of_length_le (by simp)]
theorem fmod_word {x : Int} (h0 : 0 ≤ x) (h1 : x < 256 ^ 32) : x.fmod 115792089237316195423570985008687907853269984665640564039457584007913129639936 = x := by
  rw [Int.fmod_eq_emod_of_nonneg _ (by decide +kernel)]
  exact Int.emod_eq_of_lt h0 (Int.lt_of_lt_of_le h1 (by decide +kernel))
set_option maxHeartbeats 4000000 in
theorem wordoct_spec (w : World) (x : Int) (t : Tok) (h0 : 0 ≤ x) (h1 : x < 256 ^ 32) :
    CSpec w 20 137 [.int x t] [] (fun _ => True) (fun v T' => (∃ b tB, v = .bytes b tB ∧ KBw.bInts b = (KTBy.little 32 x).reverse) ∧ T' = []) (fun _ _ _ _ _ => False) := by
  unfold CSpec
  k_fill
  intro dp un gd outer base g mean mg mb s R B hst hsz hN X Tp hd hu hG hok her
  have hb : Binds [(Str.ofString "w", .int x t)] := .mk
  walk_at "mine enter"
  walk_at "mine steps"
  rw [fmod_word h0 h1]
  refine to_big32 h0 h1 ?_
  intro bB tB kB hB
  all_goals walk_at "mine end"
  exact ⟨[], ⟨⟨_, _, rfl, hB⟩, rfl⟩, fun _ hp => nomatch hp⟩
set_option maxHeartbeats 4000000 in
theorem octword_spec (w : World) (b : Array UInt8) (t : Tok) (h0 : b.size = 32) :
    CSpec w 10 144 [.bytes b t] [] (fun _ => True) (fun v T' => (∃ t', v = .int (KFB.value (KBw.bInts b)) t') ∧ T' = []) (fun _ _ _ _ _ => False) := by
  unfold CSpec
  k_fill
  intro dp un gd outer base g mean mg mb s R B hst hsz hN X Tp hd hu hG hok her
  have hb : Binds [(Str.ofString "octets", .bytes b t)] := .mk
  walk_at "mine enter"
  walk_at "mine steps"
  rw [picked_all h0]
  walk_at "mine steps"
  all_goals walk_at "mine end"
  all_goals exact ⟨[], ⟨⟨_, rfl⟩, rfl⟩, fun _ hp => nomatch hp⟩
theorem ints_size {b : Array UInt8} {x : Int} (h : KBw.bInts b = (KTBy.little 32 x).reverse) : b.size = 32 := by
  rw [← KBw.ints_length, h, List.length_reverse, KTBy.little_length]
theorem words_29 : True := by
  k_with "call ref" => ( k_here; (with_reducible show wpAny _ _ (PySem.call (Value.ref 137) _ _) _ _ _); k_dflt ( refine' useT (wordoct_spec _ _ _ ?w56s1 ?w56s2) Take.nil ?kB ?kF ?kN ?kX ?kT ?khf ?khk ?kd ?ku ?kG ?_ ?kE; (case w56s1 => walk_at "mine ge0"); (case w56s2 => walk_at "mine ge0"); walk_at "mine pure"; k_whole); intro zqv' zqT' zqh' zqtk' zqok zqF' zqN' zqd1 zqd2; (obtain ⟨zqokb, zqe2⟩ := zqok); (obtain ⟨zqbW, zqtW, zqe1, zqhW⟩ := zqokb); (subst zqe1); (subst zqe2); (clear zqd1 zqd2); (try dsimp only [List.cons_append, List.nil_append] at zqN'); (revert zqh' zqtk' zqF' zqN' zqbW zqtW zqhW); intros; (try dsimp only); (try k_sweep); (try k_fold))
  k_with "call ref" => ( k_here; (with_reducible show wpAny _ _ (PySem.call (Value.ref 144) _ _) _ _ _); k_dflt ( refine' useT (octword_spec _ _ _ ?w57s1) Take.nil ?kB ?kF ?kN ?kX ?kT ?khf ?khk ?kd ?ku ?kG ?_ ?kE; (case w57s1 => assumption); walk_at "mine pure"; k_whole); intro zqv' zqT' zqh' zqtk' zqok zqF' zqN' zqd1 zqd2; (obtain ⟨zqokb, zqe2⟩ := zqok); (obtain ⟨zqtW, zqe1⟩ := zqokb); (subst zqe1); (subst zqe2); (clear zqd1 zqd2); (try dsimp only [List.cons_append, List.nil_append] at zqN'); (revert zqh' zqtk' zqF' zqN' zqtW); intros; (try dsimp only); (try k_sweep); (try k_fold))
  k_with "mine S read" => ( refine' useSX (read_spec _ _ _ _ _ _ _ _ _ _ _ _ _ ?w58s1 ?w58s2 ?w58s3 ?w58s4 ?w58s5 ?w58s6 ?w58s7 ?w58s8) (Take.cons ?w58ta (Take.cons ?w58tb (Take.cons ?w58tc Take.nil))) ?kB ?kF ?kN ?kX ?kT ?khf ?khk ?kd ?ku ?kG ?_ ?kE; (case kF => k_asm); (case kN => k_asm); (case w58ta => walk_at "mine take1"); (case w58tb => walk_at "mine take1"); (case w58tc => walk_at "mine take1"); (case w58s1 => k_ne); (case w58s2 => k_ne); (case w58s3 => k_ne); (case w58s4 => assumption); (case w58s5 => assumption); (case w58s6 => assumption); (case w58s7 => first | assumption | decide); (case w58s8 => first | assumption | decide); walk_at "mine std"; (case kG => exact fun _ _ => trivial))
  k_with "mine S write" => ( refine' useSX (write_spec _ _ _ _ _ _ _ _ _ _ _ _ _ ?w59s1 ?w59s2 ?w59s3 ?w59s4 ?w59s5 ?w59s6 ?w59s7 ?w59s8) (Take.cons ?w59ta (Take.cons ?w59tb (Take.cons ?w59tc Take.nil))) ?kB ?kF ?kN ?kX ?kT ?khf ?khk ?kd ?ku ?kG ?_ ?kE; (case kF => k_asm); (case kN => k_asm); (case w59ta => walk_at "mine take1"); (case w59tb => walk_at "mine take1"); (case w59tc => walk_at "mine take1"); (case w59s1 => k_ne); (case w59s2 => k_ne); (case w59s3 => k_ne); (case w59s4 => assumption); (case w59s5 => assumption); (case w59s6 => assumption); (case w59s7 => assumption); (case w59s8 => omega); walk_at "mine std"; (case kG => exact fun _ _ => trivial))
  trivial
set_option maxHeartbeats 4000000 in
theorem readword_spec (w : World) (x dx aB : Addr) (b : Array UInt8) (n place : Int) (t1 t2 t3 tp : Tok) (hx1 : @Ne Nat dx x) (hx2 : @Ne Nat aB x) (hx3 : @Ne Nat aB dx) (hn0 : 0 ≤ n) (hn1 : n ≤ 131072) (hb : (b.size : Int) = 32 * n) (hp : 0 ≤ place) :
    SSpec w 40 193 [.ref x, .int place tp] [(x, instObj 210 dx), (dx, memO w aB n t1 t2 t3), (aB, baObj b)] (fun _ => True)
      (fun v T' => touchI n place 32 ≤ 131072 ∧ (∃ t', v = .int (KFB.value (KBw.bInts ((b ++ zeros (32 * (touchI n place 32 - n)).toNat).extract place.toNat (place + 32).toNat))) t') ∧ ∃ t1 t2 t3, T' = [(x, instObj 210 dx), (dx, memO w aB (touchI n place 32) t1 t2 t3), (aB, baObj (b ++ zeros (32 * (touchI n place 32 - n)).toNat))])
      (fun _ g outer e h' => 131072 < touchI n place 32 ∧ HaltEr w "memory" [(x, instObj 210 dx), (dx, memO w aB n t1 t2 t3), (aB, baObj b)] g outer e h') := by
  have hge : n ≤ touchI n place 32 := touch_ge
  unfold SSpec memO
  k_fill
  intro dp un gd outer base g mean mg mb s R B hst hsz hN X Tp hd hu hG hok her
  have hbb : Binds [(Str.ofString "self", .ref x), (Str.ofString "place", .int place tp)] := .mk
  walk_at "mine enterS"
  refine S_cons (S_Return (S_CallS (K := Mine.hd.heap_1 w.params) ?_))
  walk_at "mine stepsS"
  refine S_Meth1 (K := Mine.hd.heap_1 w.params) ?_
  walk_at "mine stepsS"
  walk_at "mine S read"
  case kE =>
    rintro G e h2 tk2 FG - ⟨hbig, d, tk, t, RD⟩ up
    dsimp only
    walk_at "mine onD"
    intro h3 RD3 up3
    exact her _ _ _ ⟨hbig, d, tk, t, RD3⟩ up3
  rintro v T' h2 tk2 ⟨hsm, ⟨tB, rfl⟩, t1, t2, t3, rfl⟩ F2 N2 d1 d2
  clear d1 d2
  try dsimp only [List.cons_append, List.nil_append, memO] at N2
  try dsimp only
  try k_sweep
  try k_fold
  walk_at "mine and"
  have hb2 := grown_size (k := touchI n place 32) hb hge
  have hc := touch_cover (n := n) (p := place) (s := 32) (by decide)
  generalize hB : b ++ zeros (32 * (touchI n place 32 - n)).toNat = b2 at *
  have hz : (b2.extract place.toNat (place + 32).toNat).size = 32 := by
    have e : (place + 32).toNat = place.toNat + 32 := add_toNat (c := 32) hp
    have l : place.toNat + 32 ≤ b2.size := by rw [← e]; exact Int.toNat_le.mpr (by rw [hb2]; exact hc)
    rw [Array.size_extract, e, Nat.min_eq_left l, Nat.add_sub_cancel_left]
  refine wpS_any ?_
  walk_at "mine steps"
  walk_at "mine end"
  exact ⟨[(x, _), (dx, _), (aB, _)], ⟨hsm, ⟨_, rfl⟩, t1, t2, t3, rfl⟩, by walk_at "mine mem"⟩
set_option maxHeartbeats 4000000 in
theorem writeword_spec (w : World) (x dx aB : Addr) (b : Array UInt8) (n place z : Int) (t1 t2 t3 tp tz : Tok) (hx1 : @Ne Nat dx x) (hx2 : @Ne Nat aB x) (hx3 : @Ne Nat aB dx) (hn0 : 0 ≤ n) (hn1 : n ≤ 131072) (hb : (b.size : Int) = 32 * n) (hp : 0 ≤ place) (hz0 : 0 ≤ z) (hz1 : z < 256 ^ 32) :
    SSpec w 40 200 [.ref x, .int place tp, .int z tz] [(x, instObj 210 dx), (dx, memO w aB n t1 t2 t3), (aB, baObj b)] (fun _ => True)
      (fun v T' => v = .none ∧ touchI n place 32 ≤ 131072 ∧ ∃ c t1 t2 t3, KBw.bInts c = (KTBy.little 32 z).reverse ∧ T' = [(x, instObj 210 dx), (dx, memO w aB (touchI n place 32) t1 t2 t3), (aB, baObj (baPut (b ++ zeros (32 * (touchI n place 32 - n)).toNat) c place.toNat (place.toNat + 32)))])
      (fun _ g outer e h' => 131072 < touchI n place 32 ∧ HaltEr w "memory" [(x, instObj 210 dx), (dx, memO w aB n t1 t2 t3), (aB, baObj b)] g outer e h') := by
  unfold SSpec memO
  k_fill
  intro dp un gd outer base g mean mg mb s R B hst hsz hN X Tp hd hu hG hok her
  have hbb : Binds [(Str.ofString "self", .ref x), (Str.ofString "place", .int place tp), (Str.ofString "word", .int z tz)] := .mk
  walk_at "mine enterS"
  refine S_cons (S_Expr (S_Meth1 (K := Mine.hd.heap_1 w.params) ?_))
  walk_at "mine stepsS"
  rename_i F1 c tc hc N1
  have hcs := ints_size hc
  walk_at "mine S write"
  case kE =>
    rintro G e h2 tk2 FG - ⟨hbig, d, tk, t, RD⟩ up
    rw [hcs] at hbig
    dsimp only
    walk_at "mine onD"
    intro h3 RD3 up3
    exact her _ _ _ ⟨hbig, d, tk, t, RD3⟩ up3
  rw [hcs]
  rintro v T' h2 tk2 ⟨rfl, hsm, t1, t2, t3, rfl⟩ F2 N2 d1 d2
  clear d1 d2
  refine ⟨rfl, ?_⟩
  try dsimp only [List.cons_append, List.nil_append, memO] at N2
  try dsimp only
  try k_sweep
  try k_fold
  walk_at "mine nils"
  walk_at "mine end"
  exact ⟨[(x, _), (dx, _), (aB, _)], ⟨rfl, hsm, c, t1, t2, t3, hc, rfl⟩, by walk_at "mine mem"⟩
section
variable {prog : Program} {w : World} {A : Around} {E : Value → Shared → Prop} {s : Shared} {K : Frag} {C : Addr}
set_option maxHeartbeats 400000 in
open Builtin Builtin.ObjectAttr in
/-- e.name of an own exception, found in its own dict -/
theorem exc_getattr {e : Addr} {oe od : Obj} {name : PySem.Str} {v : Value} {expr : Bool} {Q : Value → Shared → Prop} (X : K.In s.heap) (I : InstAt s.heap e oe C (some od)) (hga : findIn K (.ref C) "__getattribute__" = some (some (.builtin "BaseException.__getattribute__"))) (hgn : findIn K (.ref C) "__getattr__" = some none)
    (hb : mroIn K C (.type "BaseException") = some true) (hf : findObj K C (some od) name = some (.value v)) (hh : handedIn v = true) (h : Q v { s with toks := s.toks + 1 }) : wpAny (model prog w) A (getAttr (.ref e) name expr) Q E s := by
  have FX := PySem.F.attr_Exception
  have L1 : Looks (model prog w) s.heap (isSubtype (.ref C) (.type "BaseException")) true := looks_mroIn X hb
  have hi : Looks (model prog w) s.heap (isInstance (.ref e) (.type "BaseException")) true := I.type.andThen L1
  obtain ⟨hp, g, d, t, os⟩ := s
  have L0 := I.type (M := model prog w)
  have L2 := looks_findIn (M := model prog w) X hga
  have L3 := looks_findIn (M := model prog w) X hgn
  have L4 := looks_find (M := model prog w) X I hf
  dsimp only at L0 L2 L3 L4 hi h
  unfold getAttr getAttrBy
  refine wpAny_bind (wpAny_mkText (wpAny_holding (wpAny_bind (L0.at (wpAny_bind (L2.at ?_))))))
  dsimp only
  rw [if_neg (show ¬ ((onTheHeap (Value.ref C) && Value.builtin "BaseException.__getattribute__" == Value.builtin "object.__getattribute__") = true) from by rw [show (Value.builtin "BaseException.__getattribute__" == Value.builtin "object.__getattribute__") = false from by decide +kernel, Bool.and_false]; exact Bool.false_ne_true)]
  unfold getAttrByItsOwn hookBefore
  rw [if_pos (show onTheHeap (Value.ref C) = true from rfl)]
  refine wpAny_bind (L3.at ?_)
  refine wpAny_bind (wpAny_attempt (wpAny_holding ?_))
  unfold callGetattribute
  rw [show (expr && onTheHeap (Value.builtin "BaseException.__getattribute__")) = false from by cases expr <;> rfl, if_neg Bool.false_ne_true]
  unfold boundAndCalled
  rw [FX.ga.bind]
  refine wpAny_bind (wpAny_pure ?_)
  show wpAny _ _ (call (.builtin "BaseException.__getattribute__") [.ref e, .str name t]) _ _ _
  have hk : builtinKind "BaseException.__getattribute__" = some .slot := by decide +kernel
  have hsp : splitId "BaseException.__getattribute__" = some ("BaseException", "__getattribute__") := by decide +kernel
  refine wpAny_call (codeAny_call_builtin FX.ga.plain PySem.F.entry_bexc_ga (@check_slot (model prog w) _ _ _ "BaseException.__getattribute__" "BaseException" "__getattribute__" (.ref e) [.str name t] [] _ hk hsp hi (PySem.F.args_bexc_ga (.ref e) (.str name t)) ?_))
  unfold Builtin.«object.__getattribute__»
  refine wpAny_bind (wpAny_of_eq (a := (Value.ref e, [Value.str name t])) (by kernel_rfl) ?_)
  dsimp only
  refine wpAny_bind (wpAny_of_eq (a := name) rfl ?_)
  refine wpAny_bind (L0.at (wpAny_bind (L4.at ?_)))
  refine wpAny_pure ?_
  dsimp only
  rw [handedOut_of hh]
  exact wpAny_pure h
theorem excword_L {h₀ : Heap} {L : Addr} {m : PySem.Str → Option Value} {news : Led} {e d : Addr} {oe : Obj} {vs : Array Value} {word : PySem.Str} {t tk : Tok} {expr : Bool} {Q : Value → Shared → Prop} {hsh : Int} (X : K.In h₀) (F : Fr h₀ L s.heap m) (N : News h₀ L s.heap news) (hm1 : (e, oe) ∈ news) (hc : oe.cls = .ref C) (hd : oe.dict = some d) (hv : oe.data = .fields vs)
    (hm2 : (d, dictOf [{ hash := hsh, key := .str "word" tk, val := .str word t }] 1) ∈ news)
    (hga : findIn K (.ref C) "__getattribute__" = some (some (.builtin "BaseException.__getattribute__"))) (hgn : findIn K (.ref C) "__getattr__" = some none)
    (hb : mroIn K C (.type "BaseException") = some true) (hdc : hasDictIn K C = true) (hfa : findIn K (.ref C) "word" = some none) (h : Q (.str word t) { s with toks := s.toks + 1 }) : wpAny (model prog w) A (getAttr (.ref e) "word" expr) Q E s := by
  refine exc_getattr (X.keeps F.keep) ⟨(N _ hm1).1, hc, by unfold notCls; rw [hv], by rw [hd]; exact (N _ hm2).1⟩ hga hgn hb (findObj_own hdc hfa rfl (lookIn_dict _ _ _)) rfl h
end
section
variable {prog : Program} {w : World} {A₀ : Around} {E : Value → Shared → Prop} {s' : Shared} {base g G : Heap} {outer : List Env} {L a e d : Addr} {m : PySem.Str → Option Value} {name : PySem.Str} {scope : Scope} {cd : Value} {cl : List (PySem.Str × Addr)}
  {n : PySem.Str} {b₀ : Stmt} {suite : List Stmt} {pos np : Pos} {hrs : List ExceptHandler} {Q : Flow → Shared → Prop} {news rest : Led} {KF : Frag}
  {p : Program} {loose : List PySem.Str} {mean : ExcName → Option Value} {mg mb : PySem.Str → Option Value} {x : PySem.Str}
theorem caughtD (R : RaisedD G (envX name scope L a cd cl :: outer) e d news s'.heap) (F : Fr g L G m) (K : Below A₀ base outer g) (hsm : G.UpToSlots s'.heap) (XB : KF.In base) (TB : Top p loose mean mg mb base)
    (hrest : ∀ q ∈ rest, G.get? q.1 = some q.2 ∧ q.1 ≠ L ∧ g.get? q.1 = none)
    (ex : nsIn KF mainGlobals x = some (some (.ref 107))) (q : ktsIn KF 107 "BaseException" = true)
    (k : ∀ h' g' tk oe vs, KtsTurn (outer.filterMap (·.frame)) g g' → Fr g' L h' (fun y => if y = n then some (.ref e) else m y) → News g' L h' ((e, oe) :: (news ++ rest)) → oe.cls = .ref 107 → oe.dict = some d → oe.data = .fields vs → Below A₀ base outer g' → KF.In g' → Top p loose mean mg mb g' →
      wpAny (model prog w) ((A₀.deeper (envX name scope L a cd cl)).mark (some (.ref e))) (execs (b₀ :: suite) (envX name scope L a cd cl))
        (fun f s₄ => Ended (∃ v h4 tk4 m4, f = .ret v ∧ s₄ = { s' with heap := h4, toks := tk4 } ∧ Fr g' L h4 m4 ∧ News g' L h4 (news ++ rest) ∧ ∀ h5 m5 tk5, Fr g' L h5 m5 → News g' L h5 (news ++ rest) → Q (.ret v) { s' with heap := h5, toks := tk5 }))
        (fun _ _ => False) { s' with heap := h', toks := tk })
    (hk : scope.kind = .function := by rfl) (hlo : (envX name scope L a cd cl).kindOf n = some .local := by rfl) (hx : (envX name scope L a cd cl).kindOf x = some .globalImplicit := by rfl) (hd : (x == ("__debug__" : PySem.Str)) = false := by decide) :
    wpAny (model prog w) (A₀.deeper (envX name scope L a cd cl)) (noteFrame (.ref e) (envX name scope L a cd cl))
      (fun _ s₂ => wpAny (model prog w) (A₀.deeper (envX name scope L a cd cl)) (setFlight (.ref e) none) (fun _ s₃ =>
        wpAny (model prog w) (A₀.deeper (envX name scope L a cd cl)) (handleBy (.ref e) (envX name scope L a cd cl) (.ExceptHandler (some (.Name x np)) (some n) (b₀ :: suite) pos :: hrs)) Q E s₃) E s₂) E s' := by
  obtain ⟨B, hBG, hl, hfl⟩ := R
  have hL : B.get? L = none := by
    obtain ⟨_, ⟨L', _, hf, hn', _⟩, _⟩ := hfl.frames
    obtain rfl : L = L' := Option.some.inj hf
    exact hn'
  refine lookNextD (Around.frames_deeper K.stack) rfl hfl fun h₄ hheld₄ hsm₄ => ?_
  refine landD (s := { s' with heap := h₄ }) hheld₄ fun h₅ hheld hsm₅' => ?_
  have hsm₅ := hsm₄.trans hsm₅'
  obtain ⟨g₅, T₅, F₅, K₅⟩ := kts_ground (name := name) (scope := scope) (a := a) (cd := cd) K F hBG hheld.stays (hsm.trans hsm₅)
  have X₅ : KF.In g₅ := XB.keeps K₅.stays
  have P₅ : TopRead p loose mg mb g₅ := topRead_of (TB.keeps K₅.stays)
  obtain ⟨ob, _, _, _, _, hob, hobc, _⟩ := hheld.trace
  obtain ⟨nm, q', N, bs, bm, hdct, sn, sub, ab, col, dd, k0, k1, k2, k3, k5, newId, hC, hbase, hbT⟩ := kts_cls X₅ q
  have hC₅ := F₅.keep _ _ hC
  refine wpAny_handleBy_cons (codeAny_handlers_test (nameX_K F₅ X₅ P₅ ex ?_ hk hx hd)) (by intro q; cases q)
  refine wpAny_excMatches_sub_self hC₅ hob hobc hbase (codeAny_handlers_suite_as ?_)
  refine landD (s := { s' with heap := h₅ }) hheld fun h₆ hfl₆ hsm₆ => ?_
  have up := (hsm.trans hsm₅).trans hsm₆
  obtain ⟨g₆, T₆, F₆, K₆⟩ := kts_ground (name := name) (scope := scope) (a := a) (cd := cd) K F hBG hfl₆.stays up
  obtain ⟨oe, ws, _, _, _, hoe, hoec, hoed, hoef, _⟩ := hfl₆.trace
  have ne₆ : g₆.get? e = none := T₆.none_ _ (kts_fresh (name := name) (scope := scope) (a := a) (cd := cd) F hBG hfl₆.fresh fun o ho m => by
    obtain ⟨_, o', ho', hd⟩ := K.frames.mem m
    rw [ho] at ho'
    cases ho'
    obtain ⟨sl, hs⟩ := up _ _ (F.keep _ _ ho) hd
    rw [hoe] at hs
    cases hs
    exact hd _ hoef)
  have nin : ∀ q ∈ rest, q.1 ∉ (envX name scope L a cd cl :: outer).filterMap (·.frame) := fun q hq hm => by
    rcases kts_mem (name := name) (scope := scope) (a := a) (cd := cd) hm with z | z
    · exact (hrest q hq).2.1 z
    · obtain ⟨_, o, ho, _⟩ := K.frames.mem z
      rw [(hrest q hq).2.2] at ho; cases ho
  have Nl : News g₆ L h₆ (news ++ rest) := fun q hq => by
    rcases List.mem_append.mp hq with hq | hq
    · exact ⟨hfl₆.stays _ _ (hl q hq).1, (fun z => by have := (hl q hq).1; rw [z, hL] at this; cases this), T₆.none_ _ (kts_none F.keep (hl q hq).2)⟩
    · exact ⟨hfl₆.stays _ _ (hBG _ _ (hrest q hq).1 (nin q hq)), (hrest q hq).2.1, T₆.none_ _ (hrest q hq).2.2⟩
  have N₆ : News g₆ L h₆ ((e, oe) :: (news ++ rest)) := News.more F₆ Nl hoe (fun es n q => by rw [hoef] at q; cases q) ne₆
  have X₆ : KF.In g₆ := XB.keeps K₆.stays
  have P₆ : Top p loose mean mg mb g₆ := TB.keeps K₆.stays
  refine storeX_L (s := { s' with heap := h₆ }) F₆ N₆ (fun h₇ F₇ N₇ => ?_) hk hlo
  refine wpAny_mono (k h₇ g₆ _ oe ws T₆ F₇ N₇ hoec hoed hoef K₆ X₆ P₆) (fun f s₄ hf => ?_) fun _ _ z => z.elim
  obtain ⟨v, h4, tk4, m4, rfl, rfl, F4, N4, kq⟩ := hf
  refine wpAny_nameGoes hlo F4.ns (by rw [show (envX name scope L a cd cl).scope.kind = .function from hk]; rfl) fun h5 m5 hn5 hs5 => ?_
  exact kq h5 m5 _ (F4.set hn5 hs5) (N4.set hs5)
end
/-- a body's end where the ground may have turned -/
noncomputable def LeaveT (R : Result → Shared → Prop) (v : Value) (s' : Shared) : Prop := R (.ok (.ret v)) s'
/-- a contract under S of a def that catches: the slots of the frames below may have changed -/
noncomputable def TSpec (w : World) (d : Nat) (f : Addr) (args : List Value) (T : Led) (G : Heap → Prop) (Ok : Value → Led → Prop) : Prop :=
  ∀ (dp un : Nat) (gd : Option (List Code)) (outer : List Env) (base g : Heap) (mean : ExcName → Option Value) (mg mb : Str → Option Value) (s : Shared) (R : Result → Shared → Prop),
    Below (AA dp un gd outer) base outer g → g.StaysIn s.heap → g.objs.size = s.heap.objs.size →
    (∀ p ∈ T, s.heap.get? p.1 = some p.2 ∧ g.get? p.1 = none) → (Mine.hd.heap_1 w.params).In g → Top Mine.view (looseW Mine.view [Str.ofString "WORD", Str.ofString "MOST_WORDS"]) mean mg mb g → (Mine.hd.heap_1 w.params).In base → Top Mine.view (looseW Mine.view [Str.ofString "WORD", Str.ofString "MOST_WORDS"]) mean mg mb base → dp + d < 990 → un + 20 * d < 9800 → G g →
    (∀ v T' h' tk' g', KtsTurn (outer.filterMap (·.frame)) g g' → Ok v T' → g'.StaysIn h' → (∀ p ∈ T', h'.get? p.1 = some p.2 ∧ g.get? p.1 = none) → R (.ok (.ret v)) { s with heap := h', toks := tk' }) →
    codeS (model PySem.Challenge.rw_pq0393_01.row.prog w) (AA dp un gd outer) (.call (.ref f) ⟨args, []⟩) R s
theorem endT {g g' h' : Heap} {outer : List Env} {s : Shared} {R : Result → Shared → Prop} {Ok : Value → Led → Prop} {v : Value} {news' : Led} {L' : Addr} {m' : Str → Option Value} {tk' : Nat}
    (hok : ∀ v T' h' tk' g', KtsTurn (outer.filterMap (·.frame)) g g' → Ok v T' → g'.StaysIn h' → (∀ p ∈ T', h'.get? p.1 = some p.2 ∧ g.get? p.1 = none) → R (.ok (.ret v)) { s with heap := h', toks := tk' })
    (T : KtsTurn (outer.filterMap (·.frame)) g g') (F : Fr g' L' h' m') (N : News g' L' h' news') (hO : ∃ T', Ok v T' ∧ ∀ p ∈ T', p ∈ news') : LeaveT R v { s with heap := h', toks := tk' } := by
  obtain ⟨T', o, i⟩ := hO
  refine hok _ _ _ _ _ T o F.keep fun p hp => ⟨(N p (i p hp)).1, ?_⟩
  cases q : g.get? p.1 with
  | none => rfl
  | some o =>
    obtain ⟨sl, hs⟩ := T.up q
    have := (N p (i p hp)).2.2
    rw [hs] at this; cases this
theorem enterT {w : World} {A : Around} {outer : List Env} {base g : Heap} {s : Shared} {R : Result → Shared → Prop} {T : Led} {mean : ExcName → Option Value} {mg mb : Str → Option Value}
    {name qual : Str} {params : Arguments} {body : List Stmt} {scope : Scope} {dV kV doc pm cdv ct oc : Value} {an od : Option Addr} {osl : Array (Option Value)} {f : Addr} {args : Args} {binds : List (Str × Value)}
    (B : Below A base outer g) (hst : g.StaysIn s.heap) (hsz : g.objs.size = s.heap.objs.size) (N : ∀ p ∈ T, s.heap.get? p.1 = some p.2 ∧ g.get? p.1 = none) (X : (Mine.hd.heap_1 w.params).In g) (Tp : Top Mine.view (looseW Mine.view [Str.ofString "WORD", Str.ofString "MOST_WORDS"]) mean mg mb g)
    (ho : (Mine.hd.heap_1 w.params).lookup f = some ⟨oc, od, .func (fnOf name qual params body scope dV kV doc pm an cdv ct), osl⟩) (hcd : codeIn (Mine.hd.heap_1 w.params) cdv qual = true) (hroom : A.depth < recursionLimit)
    (hbind : BindsTo s (fnOf name qual params body scope dV kV doc pm an cdv ct) args binds) (hloc : ∀ y ∈ binds, scope.names.lookup y.1 = some .local)
    (h : ∀ L' h₁, Fr g L' h₁ (fun y => binds.reverse.lookup y) → News g L' h₁ T → (∀ p ∈ T, p.1 < L') →
      wpS (model PySem.Challenge.rw_pq0393_01.row.prog w) (A.deeper (envOf qual scope L' f cdv)) (execs body (envOf qual scope L' f cdv))
        (fun fl s' => LeaveT R (match fl with | .ret v => v | _ => .none) s')
        (fun e s' => wpAny (model PySem.Challenge.rw_pq0393_01.row.prog w) (A.deeper (envOf qual scope L' f cdv)) (leaving (envOf qual scope L' f cdv) e) (fun _ s'' => R (.error e) s'') (fun e' s'' => R (.error e') s'') s')
        { s with heap := h₁, toks := s.toks + binds.length })
    (hco : scope.isCoroutine = false) (hgen : scope.isGenerator = false) (hk : scope.kind = .function)
    (hcell : ∀ x ∈ scope.names, x.2 ≠ .cell) : codeS (model PySem.Challenge.rw_pq0393_01.row.prog w) A (.call (.ref f) args) R s := by
  have Xs : (Mine.hd.heap_1 w.params).In s.heap := X.keeps hst
  refine codeS_call_def (fd := fnX name qual params body scope [] dV kV doc pm an cdv ct) (body := body) (binds := binds) hroom (Xs _ _ ho) rfl (Tp.nolimit.keeps hst) (codeRec_of Xs hcd) rfl hbind hcell hloc (fun h₁ hns hk₁ => ?_) hco hgen hk
  exact wpS_mono (h s.heap.objs.size h₁ ⟨hns, fun b o e => hk₁ b o (hst b o e), Nat.le_of_eq hsz⟩ (fun p hp => ⟨hk₁ _ _ (N p hp).1, Nat.ne_of_lt (Heap.lt_size (N p hp).1), (N p hp).2⟩) (fun p hp => Heap.lt_size (N p hp).1))
    (fun fl s' hl => hl) fun _ _ y => y

theorem enterTB {w : World} {A : Around} {outer : List Env} {base g : Heap} {s : Shared} {R : Result → Shared → Prop} {T : Led} {mean : ExcName → Option Value} {mg mb : Str → Option Value}
    {name qual : Str} {params : Arguments} {body : List Stmt} {scope : Scope} {dV kV doc pm cdv ct oc : Value} {an od : Option Addr} {osl : Array (Option Value)} {f : Addr} {args : Args} {binds : List (Str × Value)}
    (_hb : Binds binds)
    (B : Below A base outer g) (hst : g.StaysIn s.heap) (hsz : g.objs.size = s.heap.objs.size) (N : ∀ p ∈ T, s.heap.get? p.1 = some p.2 ∧ g.get? p.1 = none) (X : (Mine.hd.heap_1 w.params).In g) (Tp : Top Mine.view (looseW Mine.view [Str.ofString "WORD", Str.ofString "MOST_WORDS"]) mean mg mb g)
    (ho : (Mine.hd.heap_1 w.params).lookup f = some ⟨oc, od, .func (fnOf name qual params body scope dV kV doc pm an cdv ct), osl⟩) (hcd : codeIn (Mine.hd.heap_1 w.params) cdv qual = true) (hroom : A.depth < recursionLimit)
    (hbind : BindsTo s (fnOf name qual params body scope dV kV doc pm an cdv ct) args binds) (hloc : ∀ y ∈ binds, scope.names.lookup y.1 = some .local)
    (h : ∀ L' h₁, Fr g L' h₁ (fun y => binds.reverse.lookup y) → News g L' h₁ T → (∀ p ∈ T, p.1 < L') →
      wpS (model PySem.Challenge.rw_pq0393_01.row.prog w) (A.deeper (envOf qual scope L' f cdv)) (execs body (envOf qual scope L' f cdv))
        (fun fl s' => LeaveT R (match fl with | .ret v => v | _ => .none) s')
        (fun e s' => wpAny (model PySem.Challenge.rw_pq0393_01.row.prog w) (A.deeper (envOf qual scope L' f cdv)) (leaving (envOf qual scope L' f cdv) e) (fun _ s'' => R (.error e) s'') (fun e' s'' => R (.error e') s'') s')
        { s with heap := h₁, toks := s.toks + binds.length })
    (hco : scope.isCoroutine = false) (hgen : scope.isGenerator = false) (hk : scope.kind = .function)
    (hcell : ∀ x ∈ scope.names, x.2 ≠ .cell) : codeS (model PySem.Challenge.rw_pq0393_01.row.prog w) A (.call (.ref f) args) R s :=
  enterT B hst hsz N X Tp ho hcd hroom hbind hloc h hco hgen hk hcell

theorem frames_eq {env : Env} {outer : List Env} {L : Addr} (hf : env.frame = some L) : (env :: outer).filterMap (·.frame) = L :: outer.filterMap (·.frame) := by rw [List.filterMap_cons, hf]
theorem useTT {w : World} {d : Nat} {f : Addr} {args : List Value} {T : Led} {G : Heap → Prop} {Ok : Value → Led → Prop}
    {dp un : Nat} {gd : Option (List Code)} {env : Env} {outer : List Env} {A₀ : Around} {base h₀ : Heap} {L : Addr} {m : Str → Option Value} {news rest : Led} {s : Shared} {mean : ExcName → Option Value} {mg mb : Str → Option Value} {Q E : Value → Shared → Prop}
    (S : TSpec w d f args T G Ok) (tk : Take T news rest) (B : Below A₀ base outer h₀) (F : Fr h₀ L s.heap m) (N : News h₀ L s.heap news) (X : (Mine.hd.heap_1 w.params).In h₀) (Tp : Top Mine.view (looseW Mine.view [Str.ofString "WORD", Str.ofString "MOST_WORDS"]) mean mg mb h₀) (XB : (Mine.hd.heap_1 w.params).In base) (TB : Top Mine.view (looseW Mine.view [Str.ofString "WORD", Str.ofString "MOST_WORDS"]) mean mg mb base)
    (hf : env.frame = some L) (hke : env.scope.kind = .function) (hd : dp + d < 990) (hu : un + 20 * d < 9800)
    (hG : ∀ g, (∀ b o, s.heap.get? b = some o → (∀ q ∈ T, b ≠ q.1) → g.get? b = some o) → G g)
    (h : ∀ v T' h' tk' h₁, KtsTurn (outer.filterMap (·.frame)) h₀ h₁ → Ok v T' → Below A₀ base outer h₁ → Fr h₁ L h' m → News h₁ L h' (T' ++ rest) → (∀ p ∈ T', ∀ q ∈ rest, p.1 ≠ q.1) → (Mine.hd.heap_1 w.params).In h₁ → Top Mine.view (looseW Mine.view [Str.ofString "WORD", Str.ofString "MOST_WORDS"]) mean mg mb h₁ → Q v { s with heap := h', toks := tk' }) :
    wpS (model PySem.Challenge.rw_pq0393_01.row.prog w) (AA dp un gd (env :: outer)) (call (.ref f) args) Q E s := by
  have hT := tk.spec.1
  have N₁ : News h₀ L s.heap T := fun p hp => N p (hT p hp)
  have hg : ∀ b o, s.heap.get? b = some o → (∀ q ∈ T, b ≠ q.1) → (hideAll s.heap (T.map (·.1))).get? b = some o := fun b o e hn => hideAll_get _ e fun q => by
    obtain ⟨p, hp, hq⟩ := List.mem_map.mp q
    exact hn p hp hq.symm
  obtain ⟨FG, BG, st, -⟩ := groundX (A := AA dp un gd (env :: outer)) (R := fun _ _ => True) B F N₁ rfl hf hke
  refine wpS_call (S dp un gd (env :: outer) base _ mean mg mb s _ BG (fun b o e => of_hideAll _ e) (hideAll_size _ _) (fun p hp => ⟨(N₁ p hp).1, hideAll_none _ (List.mem_map_of_mem hp)⟩) (X.keeps st) (Tp.keeps st) XB TB hd hu (hG _ hg) ?_)
  intro v T' h' tk' g₂ turn ok sh nt
  have fe := frames_eq (outer := outer) hf
  obtain ⟨h₁, T₁, F₁, B₁⟩ := kts_ground (name := env.qual) (scope := env.scope) (a := L) (cd := .none) B FG (B := g₂) (h₅ := h')
    (fun b o e nm => turn.other b o e (by rw [fe]; exact nm)) sh (fun b o e _ => let ⟨sl, z⟩ := turn.up e; ⟨sl, sh _ _ z⟩)
  obtain ⟨oL, es, ep, hL, hLd, hLk, hLf⟩ := FG.ns
  have restG : ∀ p ∈ rest, (hideAll s.heap (T.map (·.1))).get? p.1 = some p.2 := fun p hp => hg _ _ (N p (tk.spec.2 p hp).1).1 (tk.spec.2 p hp).2
  refine h v T' h' tk' h₁ T₁ ok B₁ F₁ (fun p hp => ?_) (fun p hp q hq e => ?_) (XB.keeps B₁.stays) (TB.keeps B₁.stays)
  · rcases List.mem_append.mp hp with hp | hp
    · refine ⟨(nt p hp).1, fun q => ?_, T₁.none_ _ ?_⟩
      · have := (nt p hp).2; rw [q, hL] at this; cases this
      · cases q : h₀.get? p.1 with
        | none => rfl
        | some o => have := (nt p hp).2; rw [st _ _ q] at this; cases this
    · have z := N p (tk.spec.2 p hp).1
      refine ⟨sh _ _ (turn.other _ _ (restG p hp) fun hm => ?_), z.2.1, T₁.none_ _ z.2.2⟩
      rw [fe] at hm
      rcases List.mem_cons.mp hm with e | hm
      · exact z.2.1 e
      · obtain ⟨_, o, ho, _⟩ := B.frames.mem hm
        rw [z.2.2] at ho; cases ho
  · have := (nt p hp).2
    rw [e, restG q hq] at this; cases this
theorem SSpec.T {w : World} {d : Nat} {f : Addr} {args : List Value} {T : Led} {G : Heap → Prop} {Ok : Value → Led → Prop} (h : SSpec w d f args T G Ok (fun _ _ _ _ _ => False)) : TSpec w d f args T G Ok :=
  fun dp un gd outer base g mean mg mb s R a b c d e f' _ _ i j k l => h dp un gd outer base g mean mg mb s R a b c d e f' i j k (fun v T' h' tk' ok st nt => l v T' h' tk' g .refl ok st nt) fun _ _ _ er _ => er.elim
theorem words_32 : True := by
  k_with "mine enterT" => (k_dflt (refine' enterTB ?w60k0 ?w60k1 ?w60k2 ?w60k3 ?w60k4 ?w60k5 ?w60k6 ?w60k7 ?w60k8 ?w60k9 ?w60kb ?w60kl ?_ ?w60c1 ?w60c2 ?w60c3 ?w60c4; (case w60k0 => assumption); (case w60k1 => assumption); (case w60k2 => assumption); (case w60k3 => assumption); (case w60k4 => assumption); (case w60k5 => assumption); (case w60k6 => assumption); (case w60k7 => k_is); (case w60k8 => k_is); (case w60k9 => ktr_room); (case w60kb => exact BindsTo.of_eq rfl); (case w60kl => exact locs rfl); (case w60c1 => exact rfl); (case w60c2 => exact rfl); (case w60c3 => exact rfl); (case w60c4 => decide); k_whole; intro zqL' zqh' zqF' zqN' zql1; (try k_lt zql1); (revert zqL' zqh' zqF' zqN' zql1); intros; (try dsimp only); (try k_fold)))
  k_with "mine endT" => ((try dsimp only); (try k_unfold); (try dsimp only); refine' endT (by assumption) ?kT (by assumption) (by assumption) ?_; (case kT => first | assumption | exact .refl))
  trivial
theorem enterCC {w : World} {A : Around} {outer : List Env} {base g : Heap} {s : Shared} {R : Result → Shared → Prop} {T : Led} {mean : ExcName → Option Value} {mg mb : Str → Option Value}
    {name qual : Str} {params : Arguments} {body : List Stmt} {scope : Scope} {dV kV doc pm cdv ct oc : Value} {an od : Option Addr} {osl : Array (Option Value)} {f : Addr} {args : Args} {binds : List (Str × Value)}
    (_hb : Binds binds) (_B : Below A base outer g) (hst : g.StaysIn s.heap) (hsz : g.objs.size = s.heap.objs.size) (N : ∀ p ∈ T, s.heap.get? p.1 = some p.2 ∧ g.get? p.1 = none) (X : (Mine.hd.heap_1 w.params).In g) (Tp : Top Mine.view (looseW Mine.view [Str.ofString "WORD", Str.ofString "MOST_WORDS"]) mean mg mb g)
    (ho : (Mine.hd.heap_1 w.params).lookup f = some ⟨oc, od, .func (fnOf name qual params body scope dV kV doc pm an cdv ct), osl⟩) (hcd : codeIn (Mine.hd.heap_1 w.params) cdv qual = true) (hroom : A.depth < recursionLimit)
    (hbind : BindsTo s (fnOf name qual params body scope dV kV doc pm an cdv ct) args binds)
    (hkind : ∀ n, ∀ x ∈ binds, scope.names.lookup x.1 = some .local ∨ (scope.names.lookup x.1 = some .cell ∧ ((cellsFrom n scope.names []).lookup x.1).isSome = true))
    (hnd : ((cellsFrom 0 scope.names []).map (·.1)).Nodup)
    (h : ∀ L' h₁ tk cells, Fr g L' h₁ (bindL (envOfC qual scope L' f cdv).kindOf binds fun _ => none) → News g L' h₁ (cells ++ T) → CellsAre (bindC (envOfC qual scope L' f cdv).kindOf binds fun _ => none) (cellsFrom (L' + 1) scope.names []) cells → (∀ p ∈ T, p.1 < L') →
      wpAny (model PySem.Challenge.rw_pq0393_01.row.prog w) (A.deeper (envOfC qual scope L' f cdv)) (execs body (envOfC qual scope L' f cdv))
        (fun fl s' => LeaveC g (fun v _ s' => R (.ok (.ret v)) s') (match fl with | .ret v => v | _ => .none) s')
        (fun e s' => wpAny (model PySem.Challenge.rw_pq0393_01.row.prog w) (A.deeper (envOfC qual scope L' f cdv)) (leaving (envOfC qual scope L' f cdv) e) (fun _ s'' => R (.error e) s'') (fun e' s'' => R (.error e') s'') s')
        { s with heap := h₁, toks := tk })
    (hco : scope.isCoroutine = false) (hgen : scope.isGenerator = false) (hk : scope.kind = .function) : codeAny (model PySem.Challenge.rw_pq0393_01.row.prog w) A (.call (.ref f) args) R s := by
  have Xs : (Mine.hd.heap_1 w.params).In s.heap := X.keeps hst
  refine codeAny_call_function hroom (Xs _ _ ho) rfl hco hgen rfl (codeRec_of Xs hcd) (hbind _ _ _ _ ?_)
  refine wpAny_newFunctionEnv_cells hk (hkind _) fun env' he s' x => ?_
  subst he
  refine ⟨(Tp.nolimit.keeps hst).keeps x.toInCall.keep, codeAny_func ?_⟩
  obtain ⟨h₁, tk, rfl, _⟩ := x.done
  have hk₁ := x.toInCall.keep
  obtain ⟨cells, NC, Y⟩ := Cl.news (h₀ := s.heap) (Nat.le_refl _) fun n c hm => ⟨x.cell n c (lookup_of_mem_nodup (cellsFrom_names scope.names 0 (s.heap.objs.size + 1) [] [] rfl ▸ hnd) hm), x.above n c hm⟩
  refine wpAny_mono (h s.heap.objs.size h₁ tk cells ⟨x.toInCall.ns, fun b o e => hk₁ b o (hst b o e), Nat.le_of_eq hsz⟩ (fun p hp => ?_) Y (fun p hp => Heap.lt_size (N p hp).1)) (fun fl s' hl => by obtain ⟨_, _, _, _, _, r⟩ := hl; exact r) fun _ _ y => y
  rcases List.mem_append.mp hp with hp | hp
  · refine ⟨(NC p hp).1, (NC p hp).2.1, ?_⟩
    cases q : g.get? p.1 with
    | none => rfl
    | some o => have := hst _ _ q; rw [(NC p hp).2.2] at this; cases this
  · exact ⟨hk₁ _ _ (N p hp).1, Nat.ne_of_lt (Heap.lt_size (N p hp).1), (N p hp).2⟩
theorem enterTC {w : World} {A : Around} {outer : List Env} {base g : Heap} {s : Shared} {R : Result → Shared → Prop} {T : Led} {mean : ExcName → Option Value} {mg mb : Str → Option Value}
    {name qual : Str} {params : Arguments} {body : List Stmt} {scope : Scope} {dV kV doc pm cdv ct oc : Value} {an od : Option Addr} {osl : Array (Option Value)} {f : Addr} {args : Args} {binds : List (Str × Value)}
    (_hb : Binds binds) (_B : Below A base outer g) (hst : g.StaysIn s.heap) (hsz : g.objs.size = s.heap.objs.size) (N : ∀ p ∈ T, s.heap.get? p.1 = some p.2 ∧ g.get? p.1 = none) (X : (Mine.hd.heap_1 w.params).In g) (Tp : Top Mine.view (looseW Mine.view [Str.ofString "WORD", Str.ofString "MOST_WORDS"]) mean mg mb g)
    (ho : (Mine.hd.heap_1 w.params).lookup f = some ⟨oc, od, .func (fnOf name qual params body scope dV kV doc pm an cdv ct), osl⟩) (hcd : codeIn (Mine.hd.heap_1 w.params) cdv qual = true) (hroom : A.depth < recursionLimit)
    (hbind : BindsTo s (fnOf name qual params body scope dV kV doc pm an cdv ct) args binds)
    (hkind : ∀ n, ∀ x ∈ binds, scope.names.lookup x.1 = some .local ∨ (scope.names.lookup x.1 = some .cell ∧ ((cellsFrom n scope.names []).lookup x.1).isSome = true))
    (hnd : ((cellsFrom 0 scope.names []).map (·.1)).Nodup)
    (h : ∀ L' h₁ tk cells, Fr g L' h₁ (bindL (envOfC qual scope L' f cdv).kindOf binds fun _ => none) → News g L' h₁ (cells ++ T) → CellsAre (bindC (envOfC qual scope L' f cdv).kindOf binds fun _ => none) (cellsFrom (L' + 1) scope.names []) cells → (∀ p ∈ T, p.1 < L') →
      wpS (model PySem.Challenge.rw_pq0393_01.row.prog w) (A.deeper (envOfC qual scope L' f cdv)) (execs body (envOfC qual scope L' f cdv))
        (fun fl s' => LeaveT R (match fl with | .ret v => v | _ => .none) s')
        (fun e s' => wpAny (model PySem.Challenge.rw_pq0393_01.row.prog w) (A.deeper (envOfC qual scope L' f cdv)) (leaving (envOfC qual scope L' f cdv) e) (fun _ s'' => R (.error e) s'') (fun e' s'' => R (.error e') s'') s')
        { s with heap := h₁, toks := tk })
    (hco : scope.isCoroutine = false) (hgen : scope.isGenerator = false) (hk : scope.kind = .function) : codeS (model PySem.Challenge.rw_pq0393_01.row.prog w) A (.call (.ref f) args) R s := by
  have Xs : (Mine.hd.heap_1 w.params).In s.heap := X.keeps hst
  refine codeS_call_function hroom (Xs _ _ ho) rfl hco hgen rfl (codeRec_of Xs hcd) (hbind _ _ _ _ ?_)
  refine wpAny_newFunctionEnv_cells hk (hkind _) fun env' he s' x => ?_
  subst he
  refine ⟨(Tp.nolimit.keeps hst).keeps x.toInCall.keep, codeS_func ?_⟩
  obtain ⟨h₁, tk, rfl, _⟩ := x.done
  have hk₁ := x.toInCall.keep
  obtain ⟨cells, NC, Y⟩ := Cl.news (h₀ := s.heap) (Nat.le_refl _) fun n c hm => ⟨x.cell n c (lookup_of_mem_nodup (cellsFrom_names scope.names 0 (s.heap.objs.size + 1) [] [] rfl ▸ hnd) hm), x.above n c hm⟩
  refine wpS_mono (h s.heap.objs.size h₁ tk cells ⟨x.toInCall.ns, fun b o e => hk₁ b o (hst b o e), Nat.le_of_eq hsz⟩ (fun p hp => ?_) Y (fun p hp => Heap.lt_size (N p hp).1)) (fun fl s' hl => hl) fun _ _ y => y
  rcases List.mem_append.mp hp with hp | hp
  · refine ⟨(NC p hp).1, (NC p hp).2.1, ?_⟩
    cases q : g.get? p.1 with
    | none => rfl
    | some o => have := hst _ _ q; rw [(NC p hp).2.2] at this; cases this
  · exact ⟨hk₁ _ _ (N p hp).1, Nat.ne_of_lt (Heap.lt_size (N p hp).1), (N p hp).2⟩
theorem words_33 : True := by
  k_with "mine enterCC" => (k_dflt (refine' enterCC ?w62kb0 ?w62k0 ?w62k1 ?w62k2 ?w62k3 ?w62k4 ?w62k5 ?w62k7 ?w62k8 ?w62k9 ?w62kb ?w62kl ?kd ?_ ?w62c1 ?w62c2 ?w62c3; (case w62kb0 => assumption); (case w62k0 => assumption); (case w62k1 => assumption); (case w62k2 => assumption); (case w62k3 => assumption); (case w62k4 => assumption); (case w62k5 => assumption); (case w62k7 => k_is); (case w62k8 => k_is); (case w62k9 => ktr_room); (case w62kb => exact BindsTo.of_eq rfl); (case w62kl => exact kindsX rfl); (case kd => decide +kernel); (case w62c1 => exact rfl); (case w62c2 => exact rfl); (case w62c3 => exact rfl); k_whole; intro zqL' zqh' zqtk' zqcells' zqF' zqN' zqY' zql1; (try k_lt zql1); k_cells zqY'; (try simp only [List.cons_append, List.nil_append] at zqN'); (try dsimp only); (try show wpAny _ _ _ _ _ _); (revert zqL' zqh' zqtk' zqF' zqN' zql1); intros; (try k_fold)))
  k_with "mine enterTC" => (k_dflt (refine' enterTC ?w63kb0 ?w63k0 ?w63k1 ?w63k2 ?w63k3 ?w63k4 ?w63k5 ?w63k7 ?w63k8 ?w63k9 ?w63kb ?w63kl ?kd ?_ ?w63c1 ?w63c2 ?w63c3; (case w63kb0 => assumption); (case w63k0 => assumption); (case w63k1 => assumption); (case w63k2 => assumption); (case w63k3 => assumption); (case w63k4 => assumption); (case w63k5 => assumption); (case w63k7 => k_is); (case w63k8 => k_is); (case w63k9 => ktr_room); (case w63kb => exact BindsTo.of_eq rfl); (case w63kl => exact kindsX rfl); (case kd => decide +kernel); (case w63c1 => exact rfl); (case w63c2 => exact rfl); (case w63c3 => exact rfl); k_whole; intro zqL' zqh' zqtk' zqcells' zqF' zqN' zqY' zql1; (try k_lt zql1); k_cells zqY'; (try simp only [List.cons_append, List.nil_append] at zqN'); (try dsimp only); (try show wpAny _ _ _ _ _ _); (revert zqL' zqh' zqtk' zqF' zqN' zql1); intros; (try k_fold)))
  trivial
/-- a dict of ints that gives f, or nothing where f is nought -/
noncomputable def CellsD (w : World) (o : Obj) (f : Int → Int) (m : Nat) : Prop :=
  ∃ kvs : List (Int × Value), o.IsDictOf (PySem.intKind PySem.Challenge.rw_pq0393_01.row.prog w) kvs ∧ kvs.length ≤ m ∧ ∀ k, match PySem.valueAt kvs k with | some v => ∃ t, v = .int (f k) t | none => f k = 0
section
variable {prog : Program} {w : World} {A : Around} {E : Value → Shared → Prop} {s : Shared} {h₀ : Heap} {L aD : Addr} {m : PySem.Str → Option Value} {news : Led} {oD : Obj} {f : Int → Int} {mm : Nat}
theorem cells_getm {pl : Sem Bool} {Q : Value × List Value → Shared → Prop} (N : News h₀ L s.heap news) (hp : (aD, oD) ∈ news) (hd : CellsD w oD f mm) (h : Q (.builtin "dict.get", [.ref aD]) s) : wpAny (model PySem.Challenge.rw_pq0393_01.row.prog w) A (getMethod (.ref aD) "get" pl) Q E s :=
  let ⟨_, a, _⟩ := hd
  kdg_method N hp a h
theorem cells_get {k : Int} {t u : Tok} {Q : Value → Shared → Prop} (N : News h₀ L s.heap news) (hp : (aD, oD) ∈ news) (hd : CellsD w oD f mm) (lo : (aD == sysModules) = false) (h : ∀ t', Q (.int (f k) t') { s with toks := s.toks + 1 }) :
    wpAny (model PySem.Challenge.rw_pq0393_01.row.prog w) A (call (.builtin "dict.get") [.ref aD, .int k t, .int 0 u]) Q E s := by
  obtain ⟨kvs, a, _, c⟩ := hd
  refine kdg_get2 N hp a lo (PySem.intKind_is _ _ k t) _ rfl ?_
  have := c k
  cases q : PySem.valueAt kvs k with
  | none => rw [q] at this; dsimp only at this; rw [Option.getD_none, ← this]; exact h _
  | some v => rw [q] at this; obtain ⟨t', rfl⟩ := this; exact h _
end
theorem words_34 : True := by
  k_with "getMethod" => (k_here; (with_reducible show wpAny _ _ (getMethod (Value.ref _) (Str.ofString "get") _) _ _ _); (with_reducible rename CellsD _ _ _ _ => zqhCD); k_dflt (refine' cells_getm ?kN ?w64km zqhCD ?_; (case kN => k_asm); (case w64km => k_mem)); (try dsimp only))
  k_with "call builtin:dict.get" => (k_here; (with_reducible rename CellsD _ _ _ _ => zqhCD); (with_reducible rename (_ == sysModules) = false => zqhLo); k_dflt (refine' cells_get ?kN ?w65km zqhCD zqhLo ?_; (case kN => k_asm); (case w65km => k_mem)); intro zqtG; (revert zqtG); intros; (try dsimp only))
  trivial
set_option maxHeartbeats 4000000 in
theorem octets_spec (w : World) (aD : Addr) (oD : Obj) (f : Int → Int) (m : Nat) (place size : Int) (tp ts : Tok) (hD : CellsD w oD f m) (hlo : (aD == sysModules) = false) (h0 : 0 ≤ place) (h1 : 0 ≤ size) (h2 : size ≤ 1000) (hf : ∀ k, 0 ≤ f k ∧ f k < 256) :
    CSpec w 20 360 [.ref aD, .int place tp, .int size ts] [(aD, oD)] (fun _ => True) (fun v T' => (∃ b tB, v = .bytes b tB ∧ KBw.bInts b = (List.range size.toNat).map fun i : Nat => f (place + (i : Int))) ∧ T' = [(aD, oD)]) (fun _ _ _ _ _ => False) := by
  unfold CSpec
  k_fill
  intro dp un gd outer base g mean mg mb s R B hst hsz hN X Tp hd hu hG hok her
  have hb : Binds [(Str.ofString "cells", .ref aD), (Str.ofString "place", .int place tp), (Str.ofString "size", .int size ts)] := .mk
  walk_at "mine enterCC"
  walk_at "mine steps"
  (with_reducible rename IntsAre _ _ => hI)
  (with_reducible rename Fr _ _ _ _ => F1)
  (with_reducible rename News _ _ _ _ => N1)
  refine KBa.make_K F1 N1 rfl ⟨_, (N1 _ (.head _)).1, rfl, _, rfl⟩ hI ?_ ?_ ?_
  · intro k hk
    obtain ⟨j, _, rfl⟩ := List.mem_map.mp hk
    exact hf _
  · rw [List.length_map, rangeKs_length]; omega
  intro h3 t3 k3 F3 N3 hin
  walk_at "mine end"
  refine ⟨[(aD, _)], ⟨⟨_, _, rfl, (KBa.ints_make hin).trans ?_⟩, rfl⟩, by walk_at "mine mem"⟩
  unfold rangeKs
  rw [List.map_map, Int.sub_zero]
  refine List.map_congr_left fun i _ => ?_
  show f (place + (0 + (i : Int))) = f (place + (i : Int))
  rw [Int.zero_add]
theorem valueAt_stored {K : Type} [DecidableEq K] (kvs : List (K × Value)) (k j : K) (v : Value) : PySem.valueAt (PySem.stored kvs k v) j = if j = k then some v else PySem.valueAt kvs j := by
  unfold PySem.stored
  split
  · rename_i hany
    induction kvs with
    | nil => simp at hany
    | cons kv rest ih =>
      unfold PySem.valueAt at *
      simp only [List.map_cons, List.find?_cons]
      by_cases h1 : kv.1 = k
      · by_cases h2 : j = k
        · subst h2; simp [h1]
        · have h3 : ¬ kv.1 = j := fun e => h2 (e.symm.trans h1)
          simp only [h1, if_true, if_neg h2]
          have h4 : ¬ k = j := fun e => h2 e.symm
          simp only [h4, decide_false]
          by_cases h5 : rest.any (fun kv => decide (kv.1 = k)) = true
          · have := ih h5
            rw [if_neg h2] at this
            exact this
          · have e : rest.map (fun kv => if kv.1 = k then (kv.1, v) else kv) = rest := by
              conv => rhs; rw [← List.map_id rest]
              refine List.map_congr_left fun x hx => ?_
              rw [if_neg (fun e => h5 (List.any_eq_true.mpr ⟨x, hx, by simp [e]⟩))]
              rfl
            rw [e]
      · have h5 : rest.any (fun kv => decide (kv.1 = k)) = true := by simpa [h1] using hany
        have := ih h5
        simp only [if_neg h1]
        by_cases h6 : kv.1 = j
        · have h7 : ¬ j = k := fun e => h1 (h6.trans e)
          simp [h6, h7]
        · simp only [h6, decide_false]
          exact this
  · rename_i hany
    unfold PySem.valueAt
    rw [List.find?_append]
    by_cases h : j = k
    · subst h
      have : kvs.find? (fun kv => decide (kv.1 = j)) = none := List.find?_eq_none.mpr fun x hx e => hany (List.any_eq_true.mpr ⟨x, hx, e⟩)
      simp [this]
    · have h4 : ¬ k = j := fun e => h e.symm
      simp [h, h4]
theorem stored_length {K : Type} [DecidableEq K] (kvs : List (K × Value)) (k : K) (v : Value) : (PySem.stored kvs k v).length ≤ kvs.length + 1 := by
  unfold PySem.stored
  split <;> simp
theorem cells_set {w : World} {A : Around} {E : Value → Shared → Prop} {s : Shared} {h₀ : Heap} {L aD : Addr} {m : PySem.Str → Option Value} {news left : Led} {oD : Obj} {f : Int → Int} {mm : Nat} {k z : Int} {t u : Tok} {Q : Unit → Shared → Prop}
    (F : Fr h₀ L s.heap m) (N : News h₀ L s.heap news) (tk : Take1 aD oD news left) (hd : CellsD w oD f mm) (hm : mm ≤ 16777216)
    (h : ∀ h' o', Fr h₀ L h' m → News h₀ L h' ((aD, o') :: left) → CellsD w o' (fun j => if j = k then z else f j) (mm + 1) → Q () { s with heap := h', toks := s.toks + 1 }) :
    wpAny (model PySem.Challenge.rw_pq0393_01.row.prog w) A (setItem (.ref aD) (.int k t) (.int z u)) Q E s := by
  obtain ⟨kvs, a, b, c⟩ := hd
  have hg := N _ tk.spec.1
  refine PySem.wpAny_setItem_pairs (hsz := by rw [sizeLine_eq]; omega) (PySem.intKind_is _ _ k t) (PySem.Heap.dictOf_iff.mpr ⟨oD, hg.1, a⟩) fun h' hmm hs => ?_
  obtain ⟨o', ho', hd'⟩ := PySem.Heap.dictOf_iff.mp hmm
  refine h h' o' (F.change hs hg.2.1 hg.2.2) (fun p hp => ?_) ⟨_, hd', Nat.le_trans (stored_length _ _ _) (by omega), fun j => ?_⟩
  · rcases List.mem_cons.mp hp with rfl | hp
    · exact ⟨ho', hg.2⟩
    · have z := N p (tk.spec.2 p hp).1
      exact ⟨(hs.2 _ (tk.spec.2 p hp).2).trans z.1, z.2⟩
  · rw [valueAt_stored]
    by_cases e : j = k
    · rw [if_pos e]; exact ⟨u, by show _ = Value.int (if j = k then z else f j) u; rw [if_pos e]⟩
    · rw [if_neg e]
      have := c j
      simp only [if_neg e]
      exact this
theorem desk_set {w : World} {A : Around} {E : Value → Shared → Prop} {s : Shared} {h₀ : Heap} {L aK : Addr} {m : PySem.Str → Option Value} {news left : Led} {oK : Obj} {v0 v1 v : Value} {t : Tok} {Q : Unit → Shared → Prop}
    (F : Fr h₀ L s.heap m) (N : News h₀ L s.heap news) (tk : Take1 aK oK news left) (hd : oK.IsDictOf (PySem.strKind PySem.Challenge.rw_pq0393_01.row.prog w) [(Str.ofString "words", v0), (Str.ofString "cells", v1)])
    (h : ∀ h' o', Fr h₀ L h' m → News h₀ L h' ((aK, o') :: left) → o'.IsDictOf (PySem.strKind PySem.Challenge.rw_pq0393_01.row.prog w) [(Str.ofString "words", v), (Str.ofString "cells", v1)] → Q () { s with heap := h', toks := s.toks + 1 }) :
    wpAny (model PySem.Challenge.rw_pq0393_01.row.prog w) A (setItem (.ref aK) (.str (Str.ofString "words") t) v) Q E s := by
  have hg := N _ tk.spec.1
  refine PySem.wpAny_setItem_pairs (hsz := by rw [sizeLine_eq]; show 2 ≤ 16777216; decide) (PySem.strKind_is _ _ _ t) (PySem.Heap.dictOf_iff.mpr ⟨oK, hg.1, hd⟩) fun h' hmm hs => ?_
  obtain ⟨o', ho', hd'⟩ := PySem.Heap.dictOf_iff.mp hmm
  have e : PySem.stored [(Str.ofString "words", v0), (Str.ofString "cells", v1)] (Str.ofString "words") v = [(Str.ofString "words", v), (Str.ofString "cells", v1)] := by
    have n1 : ¬ (Str.ofString "cells" = Str.ofString "words") := by decide
    simp [PySem.stored, n1]
  rw [e] at hd'
  refine h h' o' (F.change hs hg.2.1 hg.2.2) (fun p hp => ?_) hd'
  rcases List.mem_cons.mp hp with rfl | hp
  · exact ⟨ho', hg.2⟩
  · have z := N p (tk.spec.2 p hp).1
    exact ⟨(hs.2 _ (tk.spec.2 p hp).2).trans z.1, z.2⟩
/-- S_range where the frame keeps all but the loop's own name -/
theorem S_rangeK {prog : Program} {w : World} {A : Around} {E : Value → Shared → Prop} {s : Shared} {h₀ : Heap} {x : PySem.Str} {xp : Pos} {body : List Stmt} {Q : Flow → Shared → Prop} {name : PySem.Str} {scope : Scope} {L a : Addr} {cd : Value} {r : Addr} {b₀ : Int} {t₀ u₀ v₀ : Tok} {n : Nat} {m₀ : PySem.Str → Option Value} {news : Led}
    (P : Nat → Led → Prop)
    (hh : A.handled = none) (hE : PassesOwn (model prog w) A (envOf name scope L a cd) E) (hr : IsRange s.heap r 0 b₀ 1 t₀ u₀ v₀) (hsmall : Builtin.Range.small 0 b₀ 1 = true) (hn : Builtin.Range.rangeSize 0 b₀ 1 = (n : Int))
    (hk : scope.kind = .function) (hx : (envOf name scope L a cd).kindOf x = some .local) (F : Fr h₀ L s.heap m₀) (N : News h₀ L s.heap news) (hj : P 0 news)
    (turn : ∀ (i : Nat) (t : Tok) news₁ h tk I o, i < n → P i news₁ → (∀ p ∈ news₁, @Ne Nat p.1 I) → Fr h₀ L h (fun y => if y = x then some (.int i t) else m₀ y) → News h₀ L h ((I, o) :: news₁) →
      wpS (model prog w) A (execs body (envOf name scope L a cd)) (fun f s₂ => match f with
        | .ret v => Q (.ret v) s₂
        | .brk => Q .next s₂
        | .next => Ended (∃ h' tk' m' news', s₂ = { s with heap := h', toks := tk' } ∧ Fr h₀ L h' m' ∧ News h₀ L h' ((I, o) :: news') ∧ (∀ p ∈ news', @Ne Nat p.1 I) ∧ (∀ y, y ≠ x → m' y = m₀ y) ∧ P (i + 1) news')
        | .cont => Ended (∃ h' tk' m' news', s₂ = { s with heap := h', toks := tk' } ∧ Fr h₀ L h' m' ∧ News h₀ L h' ((I, o) :: news') ∧ (∀ p ∈ news', @Ne Nat p.1 I) ∧ (∀ y, y ≠ x → m' y = m₀ y) ∧ P (i + 1) news')) E { s with heap := h, toks := tk })
    (done : ∀ m₁ news₁ h tk, (∀ y, y ≠ x → m₁ y = m₀ y) → P n news₁ → Fr h₀ L h m₁ → News h₀ L h news₁ → Q .next { s with heap := h, toks := tk }) :
    wpAny (model prog w) A (pyIter (.ref r)) (fun it s₂ => codeS (model prog w) A (.forLoop (.Name x xp) it body [] (envOf name scope L a cd)) (fun r s' => match r with | .ok f => Q f s' | .error e => cameBackBy (model prog w) A (envOf name scope L a cd) E e s') s₂) E s := by
  refine S_range (fun i m₁ n₁ => (∀ y, y ≠ x → m₁ y = m₀ y) ∧ P i n₁) hh hE hr hsmall hn hk hx F N ⟨fun _ _ => rfl, hj⟩ ?_ fun m₁ n₁ h tk hJ F N => done m₁ n₁ h tk hJ.1 hJ.2 F N
  intro i t m₁ n₁ h tk I o hi hJ off F1 N1
  have F2 : Fr h₀ L h (fun y => if y = x then some (.int i t) else m₀ y) := Fr.to F1 fun y => by
    by_cases e : y = x
    · rw [if_pos e, if_pos e]
    · rw [if_neg e, if_neg e]; exact hJ.1 y e
  refine wpS_mono (turn i t n₁ h tk I o hi hJ.2 off F2 N1) (fun f s₂ hf => ?_) fun _ _ z => z
  cases f with
  | ret v => exact hf
  | brk => exact hf
  | next => obtain ⟨a, b, c, d, e1, e2, e3, e4, e5, e6⟩ := hf; exact ⟨a, b, c, d, e1, e2, e3, e4, e5, e6⟩
  | cont => obtain ⟨a, b, c, d, e1, e2, e3, e4, e5, e6⟩ := hf; exact ⟨a, b, c, d, e1, e2, e3, e4, e5, e6⟩
theorem words_35 : True := by
  k_with "setItem ref str" => ( k_here; (with_reducible show wpAny _ _ (setItem (Value.ref _) (Value.str (Str.ofString "words") _) _) _ _ _); k_dflt (refine' desk_set ?kF ?kN ?w66kt ?kd ?_; (case kF => k_asm); (case kN => k_asm); (case w66kt => walk_at "mine take1"); (case kd => assumption)); intro zqh' zqo' zqF' zqN' zqhK'; (revert zqh' zqo' zqF' zqN' zqhK'); intros; (try k_sweep))
  k_with "setItem ref int" => ( k_here; (with_reducible show wpAny _ _ (setItem (Value.ref _) (Value.int _ _) (Value.int _ _)) _ _ _); k_dflt (refine' cells_set ?kF ?kN ?w67kt ?kd ?w67km ?_; (case kF => k_asm); (case kN => k_asm); (case w67kt => walk_at "mine take1"); (case kd => assumption); (case w67km => first | assumption | omega)); intro zqh' zqo' zqF' zqN' zqhD'; (revert zqh' zqo' zqF' zqN' zqhD'); intros; (try k_sweep))
  trivial
/-- f, the values v laid from p on, n of them -/
noncomputable def lay (f : Int → Int) (p : Int) (v : Nat → Int) (n : Nat) : Int → Int := fun k => if p ≤ k ∧ k < p + n then v (k - p).toNat else f k
theorem lay_zero {f : Int → Int} {p : Int} {v : Nat → Int} : lay f p v 0 = f := by
  funext k; unfold lay; rw [if_neg (by omega)]
theorem lay_succ {f : Int → Int} {p : Int} {v : Nat → Int} {n : Nat} {z : Int} (e : z = v n) : (fun j => if j = p + (n : Int) then z else lay f p v n j) = lay f p v (n + 1) := by
  funext k
  unfold lay
  by_cases h : k = p + (n : Int)
  · rw [if_pos h, if_pos (by omega), e, show (k - p).toNat = n from by omega]
  · rw [if_neg h]
    by_cases h2 : p ≤ k ∧ k < p + (n : Int)
    · rw [if_pos h2, if_pos (by omega)]
    · rw [if_neg h2, if_neg (by omega)]
noncomputable def octF (f : Int → Int) (p : Int) (n : Nat) : List Int := (List.range n).map fun i : Nat => f (p + (i : Int))
/-- what a doing that is not refused hands back, and what lies then -/
noncomputable def Out (way : Int) (f : Int → Int) (place size word : Int) (v : Value) (f' : Int → Int) : Prop :=
  (way = 1 ∧ v = .none ∧ f' = f) ∨
  (way = 2 ∧ (∃ b t, v = .bytes b t ∧ KBw.bInts b = octF f place size.toNat) ∧ f' = f) ∨
  (way = 3 ∧ v = .none ∧ f' = lay f place (fun i => (word + (i : Int)) % 256) size.toNat) ∨
  (way = 4 ∧ (∃ t, v = .int (KFB.value (octF f place 32)) t) ∧ f' = f) ∨
  (way = 5 ∧ v = .none ∧ f' = lay f place (fun i => word / 256 ^ (31 - i) % 256) 32) ∨
  (way = 6 ∧ v = .none ∧ f' = lay f place (fun _ => word % 256) 1)
noncomputable def sizeW (way size : Int) : Int := if way > 3 then (if way = 6 then 1 else 32) else size
theorem sizeW6 {way size : Int} (h : way = 6) : sizeW way size = 1 := by unfold sizeW; rw [if_pos (by omega), if_pos h]
theorem sizeW45 {way size : Int} (h : 3 < way) (h2 : way ≠ 6) : sizeW way size = 32 := by unfold sizeW; rw [if_pos (by omega), if_neg h2]
theorem sizeW3 {way size : Int} (h : ¬ 3 < way) : sizeW way size = size := by unfold sizeW; rw [if_neg (by omega)]
theorem pow256_log (e : Nat) (h : e ≤ 100) : ((256 : Int) ^ e).natAbs.log2 < 9000 := by
  have h0 : ((256 : Int) ^ e).natAbs = 256 ^ e := by rw [Int.natAbs_pow]; rfl
  rw [h0]
  refine (Nat.log2_lt (Nat.ne_of_gt (Nat.pow_pos (by decide)))).mpr ?_
  exact Nat.lt_of_le_of_lt (Nat.pow_le_pow_right (by decide) h) (by decide)
theorem floordiv_pow {prog : Program} {w : World} {A : Around} {E : Value → Shared → Prop} {s : Shared} {a : Int} {t u : Tok} {e : Nat} {Q : Value → Shared → Prop} (he : e ≤ 100)
    (h : Q (.int (a / 256 ^ e) s.toks) { s with toks := s.toks + 1 }) : wpAny (model prog w) A (binaryOp .FloorDiv (.int a t) (.int (256 ^ e) u)) Q E s := by
  have h0 : (0 : Int) < 256 ^ e := Int.pow_pos (by decide)
  refine PyProof.Rows.floordiv_int (by omega) ?_ (Or.inl (PyProof.noPylong_of_log2 (pow256_log e he)))
  rw [Int.fdiv_eq_ediv_of_nonneg _ (Int.le_of_lt h0)]
  exact h
theorem CellsD.cast {w : World} {o : Obj} {f f' : Int → Int} {m m' : Nat} (h : CellsD w o f m) (e1 : f = f') (e2 : m = m') : CellsD w o f' m' := by subst e1; subst e2; exact h
theorem any_ways {way : Int} (h : ([3, 5, 6] : List Int).any (fun x => x == way) = true) : way = 3 ∨ way = 5 ∨ way = 6 := by
  simp only [List.any_cons, List.any_nil, Bool.or_false, Bool.or_eq_true, beq_iff_eq] at h
  omega
theorem smallR {n : Int} (h0 : 0 ≤ n) (h : n ≤ 1000) : Builtin.Range.small 0 n 1 = true := by
  unfold Builtin.Range.small Builtin.Range.rangeSize
  simp only [Builtin.Range.rangeFitsLong, Bool.and_eq_true, Bool.or_eq_true, decide_eq_true_eq, beq_iff_eq, show ((1 : Int) > 0) by decide, if_true, Int.ediv_one]
  split <;> omega
theorem sizeR {n : Int} (h0 : 0 ≤ n) : Builtin.Range.rangeSize 0 n 1 = (n.toNat : Int) := by
  unfold Builtin.Range.rangeSize
  simp
  omega
theorem octets_size32 {b : Array UInt8} {f : Int → Int} {p : Int} (h : KBw.bInts b = List.map (fun i : Nat => f (p + (i : Int))) (List.range (Int.toNat 32))) : b.size = 32 := by
  rw [← KBw.ints_length, h, List.length_map, List.length_range]; rfl
theorem exV {b : Array UInt8} {l : List Int} {t : Tok} (h : KBw.bInts b = l) : ∃ t', Value.int (KFB.value (KBw.bInts b)) t = .int (KFB.value l) t' := ⟨t, by rw [h]⟩
theorem name_cells {P : Prop} {w : World} {o : Obj} {f : Int → Int} {m : Nat} (_h : CellsD w o f m) (r : ∀ o', o' = o → P) : P := r o rfl
theorem name_it {P : Prop} {w : World} {o : Obj} {l : List (PySem.Str × Value)} (_h : o.IsDictOf (PySem.strKind PySem.Challenge.rw_pq0393_01.row.prog w) l) (r : ∀ o', o' = o → P) : P := r o rfl
theorem News.sub {g h : Heap} {L : Addr} {l l' : Led} (N : News g L h l) (i : ∀ p ∈ l', p ∈ l) : News g L h l' := fun p hp => N p (i p hp)
theorem foldM {α : Type} {M : Model} {A : Around} {t : Sem α} {Q : α → Shared → Prop} {E : Value → Shared → Prop} {s : Shared} {h₀ h : Heap} {L : Addr} {m : Str → Option Value} (F : Fr h₀ L h m) (k : let m' := m; Fr h₀ L h m' → wpS M A t Q E s) : wpS M A t Q E s := k F
theorem foldS {α : Type} {M : Model} {A : Around} {t : Sem α} {Q : α → Shared → Prop} {E : Value → Shared → Prop} {s : Shared} (k : let Q' := Q; let E' := E; wpS M A t Q' E' s) : wpS M A t Q E s := k
theorem m_one {m : PySem.Str → Option Value} {a : PySem.Str} {va : Option Value} (ha : m a = va) : ∀ y, m y = if y = a then va else m y := fun y => by
  by_cases h1 : y = a
  · rw [if_pos h1, h1, ha]
  · rw [if_neg h1]
theorem CellsD.more {w : World} {o : Obj} {f : Int → Int} {m m' : Nat} (h : CellsD w o f m) (e : m ≤ m') : CellsD w o f m' := ⟨_, h.choose_spec.1, Nat.le_trans h.choose_spec.2.1 e, h.choose_spec.2.2⟩
/-- what the loop lays -/
noncomputable def dueV (way word S : Int) (i : Nat) : Int := (if way = 3 then word + (i : Int) else word / 256 ^ (S - 1 - (i : Int)).toNat) % 256
theorem sizeW_in {way size : Int} (h1 : 0 ≤ size) (h2 : size ≤ 100) : 0 ≤ sizeW way size ∧ sizeW way size ≤ 100 := by
  unfold sizeW
  split
  · split <;> decide
  · exact ⟨h1, h2⟩
theorem lay_congr {f : Int → Int} {p : Int} {v v' : Nat → Int} {n : Nat} (h : ∀ i, i < n → v i = v' i) : lay f p v n = lay f p v' n := by
  funext k
  unfold lay
  split
  · exact h _ (by omega)
  · rfl
theorem due_out {way size word place S : Int} {f : Int → Int} (hS : sizeW way size = S) (h : way = 3 ∨ way = 5 ∨ way = 6) : Out way f place size word .none (lay f place (dueV way word S) S.toNat) := by
  rcases h with rfl | rfl | rfl
  · obtain rfl : size = S := hS
    exact .inr (.inr (.inl ⟨rfl, rfl, rfl⟩))
  · obtain rfl : 32 = S := hS
    refine .inr (.inr (.inr (.inr (.inl ⟨rfl, rfl, lay_congr fun i hi => ?_⟩))))
    have hi : i < 32 := hi
    unfold dueV
    rw [if_neg (by decide), show ((32 : Int) - 1 - (i : Int)).toNat = 31 - i from by omega]
  · obtain rfl : 1 = S := hS
    refine .inr (.inr (.inr (.inr (.inr ⟨rfl, rfl, lay_congr fun i hi => ?_⟩))))
    have hi : i < 1 := hi
    obtain rfl : i = 0 := Nat.lt_one_iff.mp hi
    unfold dueV
    rw [if_neg (by decide), show ((1 : Int) - 1 - ((0 : Nat) : Int)).toNat = 0 from rfl]
    simp
theorem stepUp {a b : Int} (h : a ≤ b) (n : b ≠ a) : a + 1 ≤ b := Int.add_one_le_iff.mpr (Int.lt_iff_le_and_ne.mpr ⟨h, n.symm⟩)
theorem stepDn {a b : Int} (h : b ≤ a) (n : b ≠ a) : b ≤ a - 1 := Int.le_sub_one_iff.mpr (Int.lt_iff_le_and_ne.mpr ⟨h, n⟩)
theorem any_no {way : Int} (h : ([3, 5, 6] : List Int).any (fun x => x == way) = false) (h0 : 0 ≤ way) (h1 : way ≤ 6) (n0 : way ≠ 0) (n2 : way ≠ 2) (n4 : way ≠ 4) : way = 1 := by
  have n3 : way ≠ 3 := fun e => by subst e; exact absurd h (by decide)
  have n5 : way ≠ 5 := fun e => by subst e; exact absurd h (by decide)
  have n6 : way ≠ 6 := fun e => by subst e; exact absurd h (by decide)
  exact Int.le_antisymm (stepDn (stepDn (stepDn (stepDn (stepDn h1 n6) n5) n4) n3) n2) (stepUp h0 n0)
theorem way_six {way : Int} (h0 : 0 ≤ way) (h1 : way ≤ 6) (n0 : way ≠ 0) (n1 : way ≠ 1) (n2 : way ≠ 2) (n3 : way ≠ 3) (n4 : way ≠ 4) (n5 : way ≠ 5) : way = 6 :=
  Int.le_antisymm h1 (stepUp (stepUp (stepUp (stepUp (stepUp (stepUp h0 n0) n1) n2) n3) n4) n5)
local macro_rules | `(tactic| k_all) => `(tactic| first | exact List.forall_mem_nil _ | with_reducible assumption | (refine' List.forall_mem_cons.mpr ⟨?a, ?b⟩; (case a => k_ne); (case b => k_all)))
theorem words_36 : True := by
  k_with "mine way" => first | (rename way = _ => hq; rw [hq]; decide) | omega
  k_with "mine in" => first | assumption | (refine List.Mem.tail _ ?_; walk_at "mine in")
  k_with "mine mem" => first | exact List.forall_mem_nil _ | ((with_reducible refine' List.forall_mem_cons.mpr (And.intro ?w70ma ?w70mb)); (case w70ma => k_mem); (case w70mb => walk_at "mine mem")) | exact fun _ _ => by walk_at "mine in"
  k_with "mine foldS" => ((try dsimp only); with_reducible refine foldS ?_; intro _ _)
  k_with "call ref" => ( k_here; (with_reducible show wpAny _ _ (PySem.call (Value.ref 360) _ _) _ _ _); k_dflt ( refine' useT (octets_spec _ _ _ _ _ _ _ _ _ ?w72s1 ?w72s2 ?w72s3 ?w72s4 ?w72s5 ?w72s6) (Take.cons ?w72ta Take.nil) ?kB ?kF ?kN ?kX ?kT ?khf ?khk ?kd ?ku ?kG ?_ ?kE; (case kF => k_asm); (case kN => k_asm); (case w72ta => walk_at "mine take1"); (case w72s1 => assumption); (case w72s2 => assumption); (case w72s3 => first | assumption | decide); (case w72s4 => first | assumption | decide | omega); (case w72s5 => first | assumption | decide | omega); (case w72s6 => assumption); walk_at "mine std"; (case kG => exact fun _ _ => trivial); (case kE => exact fun _ _ _ _ _ _ _ er _ => er.elim); k_whole); intro zqv' zqT' zqh' zqtk' zqok zqF' zqN' zqd1 zqd2; (obtain ⟨zqokb, zqe2⟩ := zqok); (obtain ⟨zqbW, zqtW, zqe1, zqhW⟩ := zqokb); (subst zqe1); (subst zqe2); (clear zqd1 zqd2); (try dsimp only [List.cons_append, List.nil_append] at zqN'); (revert zqh' zqtk' zqF' zqN' zqbW zqtW zqhW); intros; (try dsimp only); (try k_sweep); (try k_fold))
  k_with "binaryOp FloorDiv int int" => ( k_here; (with_reducible show wpAny _ _ (binaryOp Operator.FloorDiv (Value.int _ _) (Value.int (256 ^ _) _)) _ _ _); (refine floordiv_pow (by first | assumption | omega) ?_))
  k_with "mine stop" => with_reducible show wpAny _ _ (pyIter _) _ _ _
  k_with "mine next" => ((try dsimp only); (with_reducible refine S_cons (wpS_any ?_)); walk_at "mine stepsS")
  trivial
set_option maxHeartbeats 8000000 in
theorem due_spec (w : World) (aK aD : Addr) (oK oD : Obj) (f : Int → Int) (m : Nat) (n way place size word : Int) (tn t1 t2 t3 t4 : Tok) (hK : oK.IsDictOf (PySem.strKind PySem.Challenge.rw_pq0393_01.row.prog w) [(Str.ofString "words", .int n tn), (Str.ofString "cells", .ref aD)]) (hD : CellsD w oD f m) (hlo : (aD == sysModules) = false) (hlk : (aK == sysModules) = false)
    (hne : @Ne Nat aK aD) (hw0 : 0 ≤ way) (hw1 : way ≤ 6) (h0 : 0 ≤ place) (h1 : 0 ≤ size) (h2 : size ≤ 100) (hf : ∀ k, 0 ≤ f k ∧ f k < 256) (hn0 : 0 ≤ n) (hm : m ≤ 10000) (hz : 0 ≤ word) (hz1 : word < 256 ^ 32) :
    TSpec w 40 379 [.ref aK, .int way t1, .int place t2, .int size t3, .int word t4] [(aK, oK), (aD, oD)] (fun _ => True)
      (fun v T' => (way = 0 ∧ (∃ t, v = .int (touchI n place size) t) ∧ T' = [(aK, oK), (aD, oD)]) ∨ (way ≠ 0 ∧ 131072 < touchI n place (sizeW way size) ∧ (∃ t, v = .str "halt memory" t) ∧ T' = [(aK, oK), (aD, oD)]) ∨
        (way ≠ 0 ∧ touchI n place (sizeW way size) ≤ 131072 ∧ ∃ oK' oD' f' t, T' = [(aK, oK'), (aD, oD')] ∧ oK'.IsDictOf (PySem.strKind PySem.Challenge.rw_pq0393_01.row.prog w) [(Str.ofString "words", .int (touchI n place (sizeW way size)) t), (Str.ofString "cells", .ref aD)] ∧ CellsD w oD' f' (m + 100) ∧ Out way f place size word v f')) := by
  refine SSpec.T ?_
  unfold SSpec
  k_fill
  intro dp un gd outer base g mean mg mb s R B hst hsz hN X Tp hd hu hG hok her
  have hb : Binds [(Str.ofString "desk", .ref aK), (Str.ofString "way", .int way t1), (Str.ofString "place", .int place t2), (Str.ofString "size", .int size t3), (Str.ofString "word", .int word t4)] := .mk
  walk_at "mine enterS"
  rename_i L hL FL NL lL
  (try dsimp only)
  with_reducible refine foldM FL ?_
  clear FL
  intro m0 FL
  refine S_cons (wpS_any (wpAny_mono (Q := fun f s' => Ended (f = Flow.next ∧ ∃ (tz : Tok) (h' : Heap) (tk' : Nat), s' = { s with heap := h', toks := tk' } ∧ Fr g L h' (fun y => if y = Str.ofString "size" then some (Value.int (sizeW way size) tz) else m0 y) ∧ News g L h' [(aK, oK), (aD, oD)])) ?c1 (fun f s' hf => ?_) (fun _ _ z => z)))
  case c1 =>
    walk_at "mine stepsS"
    all_goals (try k_unfold)
    all_goals (try dsimp only)
    · exact ⟨by first | rfl | trivial, _, _, _, rfl, by rw [sizeW6 (by assumption)]; assumption, News.sub (by assumption) (by walk_at "mine mem")⟩
    · exact ⟨by first | rfl | trivial, _, _, _, rfl, by rw [sizeW45 (by assumption) (by assumption)]; assumption, News.sub (by assumption) (by walk_at "mine mem")⟩
    · exact ⟨by first | rfl | trivial, t3, _, _, rfl, by rw [sizeW3 (by assumption)]; exact Fr.to FL (m_one rfl), News.sub (by assumption) (by walk_at "mine mem")⟩
  obtain ⟨rfl, tz, h5, tk5, rfl, F5, N5⟩ := hf
  clear FL NL
  obtain ⟨hS0, hS1⟩ := sizeW_in (way := way) h1 h2
  generalize hS : sizeW way size = S at hok hS0 hS1 F5
  (try dsimp only)
  with_reducible refine foldM F5 ?_
  clear F5
  intro m1 F5
  walk_at "mine next"
  walk_at "mine next"
  · walk_at "mine end"
    exact ⟨[(aK, _), (aD, _)], .inl ⟨by assumption, ⟨_, by rw [← hS, sizeW3 (by walk_at "mine way")]⟩, rfl⟩, by walk_at "mine mem"⟩
  walk_at "mine next"
  · walk_at "mine end"
    exact ⟨[(aK, _), (aD, _)], .inr (.inl ⟨by assumption, by assumption, ⟨_, rfl⟩, rfl⟩), by walk_at "mine mem"⟩
  have hfew : touchI n place S ≤ 131072 := by omega
  walk_at "mine next"
  walk_at "mine next"
  · obtain rfl : size = S := by rw [← hS, sizeW3 (by walk_at "mine way")]
    walk_at "mine end"
    exact ⟨[(aK, _), (aD, _)], .inr (.inr ⟨by assumption, hfew, _, _, f, _, rfl, by assumption, hD.more (Nat.le_add_right _ _), .inr (.inl ⟨by assumption, ⟨_, _, rfl, by assumption⟩, rfl⟩)⟩), by walk_at "mine mem"⟩
  walk_at "mine next"
  · (with_reducible rename KBw.bInts _ = _ => hW)
    have hsz32 := octets_size32 hW
    walk_at "mine stepsS"
    walk_at "mine end"
    exact ⟨[(aK, _), (aD, _)], .inr (.inr ⟨by assumption, hfew, _, _, f, _, rfl, by assumption, hD.more (Nat.le_add_right _ _), .inr (.inr (.inr (.inl ⟨by assumption, exV hW, rfl⟩)))⟩), by walk_at "mine mem"⟩
  try dsimp only
  refine S_cons (S_For ?_)
  walk_at "mine stepsS"
  · (with_reducible rename IsRange _ _ _ _ _ _ _ _ => hr)
    (with_reducible rename Fr _ _ _ _ => F0)
    (with_reducible rename News _ _ _ _ => N0)
    (with_reducible rename Obj.IsDictOf _ _ _ => hK2)
    (rename List.any _ _ = true => hany)
    have hway : way = 3 ∨ way = 5 ∨ way = 6 := any_ways hany
    refine name_it hK2 fun oK' e => ?_
    subst e
    try dsimp only
    refine' S_rangeK (n := S.toNat) (news := [(aK, oK'), (aD, oD)]) (fun i n₁ => ∃ o, n₁ = [(aK, oK'), (aD, o)] ∧ CellsD w o (lay f place (dueV way word S) i) (m + i)) rfl ?kE hr ?ks ?kn rfl rfl F0 (fun p hp => N0 p ?kp) ?kj ?kt ?kd
    case kE => passes_own
    case ks => exact smallR hS0 (Int.le_trans hS1 (by decide))
    case kn => exact sizeR hS0
    case kp => exact List.mem_cons.mpr (.inr (by rcases List.mem_cons.mp hp with rfl | hp <;> simp_all))
    case kj => exact ⟨_, rfl, by rw [lay_zero]; assumption⟩
    case kd =>
      intro m₁ news₁ h tk hJ hP F N
      obtain ⟨oD', e2, hD2⟩ := hP
      subst e2
      clear F0 N0
      walk_at "mine next"
      walk_at "mine end"
      exact ⟨[(aK, oK'), (aD, oD')], .inr (.inr ⟨by assumption, hfew, oK', oD', _, _, rfl, by assumption, hD2.more (by omega), due_out hS hway⟩), by walk_at "mine mem"⟩
    case kt =>
      intro i t news₁ h tk I o hi hP off F N
      obtain ⟨oD', e2, hD2⟩ := hP
      subst e2
      have hI1 : @Ne Nat aK I := off _ (List.mem_cons_self ..)
      have hI2 : @Ne Nat aD I := off _ (List.mem_cons_of_mem _ (List.mem_cons_self ..))
      clear F0 N0
      have hS2 : S.toNat ≤ 100 := Int.toNat_le.mpr hS1
      have hmi : m + i ≤ 16777216 := Nat.le_trans (Nat.add_le_add hm (Nat.le_trans (Nat.le_of_lt hi) hS2)) (by decide)
      have hi2 : (i : Int) < S := by rw [← Int.toNat_of_nonneg hS0]; exact Int.ofNat_lt.mpr hi
      have hi3 : 0 ≤ S - 1 - (i : Int) := by omega
      have hi4 : S - 1 - (i : Int) ≤ 1000000 := by omega
      have hi5 : (S - 1 - (i : Int)).toNat ≤ 100 := Int.toNat_le.mpr (by omega)
      walk_at "mine next"
      all_goals (
        walk_at "mine nils"
        try dsimp only
        (with_reducible rename Fr _ _ _ _ => F9)
        (with_reducible rename News _ _ _ _ => N9)
        (with_reducible rename CellsD _ _ _ _ => hD9)
        try dsimp only at F9 N9
        refine name_cells hD9 fun oD9 e9 => ?_
        subst e9
        refine ⟨_, _, _, [(aK, oK'), (aD, oD9)], rfl, F9, fun p hp => N9 p ((by walk_at "mine mem" : ∀ p ∈ [(I, o), (aK, oK'), (aD, oD9)], p ∈ _) p hp), List.forall_mem_cons.mpr ⟨hI1, List.forall_mem_cons.mpr ⟨hI2, List.forall_mem_nil _⟩⟩, fun y hy => if_neg hy, _, rfl, CellsD.cast hD9 (lay_succ ?_) (by omega)⟩
        unfold dueV
        first | rw [if_pos (by assumption)] | rw [if_neg (by assumption)]
        simp [Int.fmod_eq_emod_of_nonneg])
  · (rename List.any _ _ = false => hany)
    (with_reducible rename IsRange _ _ _ _ _ _ _ _ => hr)
    (with_reducible rename Fr _ _ _ _ => F0)
    (with_reducible rename News _ _ _ _ => N0)
    (with_reducible rename Obj.IsDictOf _ _ _ => hK2)
    have hway : way = 1 := any_no hany hw0 hw1 (by assumption) (by assumption) (by assumption)
    refine name_it hK2 fun oK' e => ?_
    subst e
    try dsimp only
    refine' S_rangeK (n := 0) (news := [(aK, oK'), (aD, oD)]) (fun i n₁ => n₁ = [(aK, oK'), (aD, oD)]) rfl ?kE hr ?ks ?kn rfl rfl F0 (fun p hp => N0 p ?kp) rfl ?kt ?kd
    case kE => passes_own
    case ks => decide
    case kn => decide
    case kp => exact List.mem_cons.mpr (.inr (by rcases List.mem_cons.mp hp with rfl | hp <;> simp_all))
    case kd =>
      intro m₁ news₁ h tk hJ hP F N
      subst hP
      clear F0 N0
      walk_at "mine next"
      walk_at "mine end"
      exact ⟨[(aK, oK'), (aD, oD)], .inr (.inr ⟨by assumption, hfew, oK', oD, f, _, rfl, by assumption, hD.more (Nat.le_add_right _ _), .inl ⟨hway, rfl, rfl⟩⟩), by walk_at "mine mem"⟩
    case kt =>
      intro i t news₁ h tk I o hi
      exact absurd hi (Nat.not_lt_zero _)
noncomputable def byteAt (b : Array UInt8) (i : Nat) : Int := ((b.getD i 0).toNat : Int)
/-- the octets b of n words hold what f says, and beyond them f says nought -/
noncomputable def MemR (b : Array UInt8) (n : Int) (f : Int → Int) : Prop := (b.size : Int) = 32 * n ∧ 0 ≤ n ∧ ∀ i : Nat, byteAt b i = f (i : Int)
theorem byteAt_lt {b : Array UInt8} {i : Nat} (h : i < b.size) : byteAt b i = (b[i].toNat : Int) := by
  unfold byteAt; rw [Array.getD_eq_getD_getElem?, Array.getElem?_eq_getElem h]; rfl
theorem byteAt_ge {b : Array UInt8} {i : Nat} (h : b.size ≤ i) : byteAt b i = 0 := by
  unfold byteAt; rw [Array.getD_eq_getD_getElem?, Array.getElem?_eq_none h]; rfl
theorem bInts_at {b : Array UInt8} {l : List Int} (h : KBw.bInts b = l) {i : Nat} (hi : i < b.size) : l[i]? = some (byteAt b i) := by
  subst h
  rw [byteAt_lt hi]
  unfold KBw.bInts
  simp [hi]
theorem bInts_of {b : Array UInt8} {n : Nat} {v : Nat → Int} (hn : b.size = n) (h : ∀ i, i < n → byteAt b i = v i) : KBw.bInts b = (List.range n).map v := by
  apply List.ext_getElem
  · rw [KBw.ints_length, List.length_map, List.length_range, hn]
  · intro i h1 h2
    rw [KBw.ints_length] at h1
    have e := bInts_at (b := b) rfl h1
    rw [List.getElem?_eq_getElem (by rw [KBw.ints_length]; exact h1)] at e
    rw [Option.some.inj e, h i (by omega)]
    simp
theorem MemR.zero : MemR #[] 0 fun _ => 0 := ⟨rfl, by decide, fun i => byteAt_ge (Nat.zero_le _)⟩
theorem MemR.grow {b : Array UInt8} {n k : Int} {f : Int → Int} (h : MemR b n f) (hk : n ≤ k) : MemR (b ++ zeros (32 * (k - n)).toNat) k f := by
  obtain ⟨h1, h2, h3⟩ := h
  obtain ⟨d, hd⟩ := Int.eq_ofNat_of_zero_le (Int.sub_nonneg.mpr hk)
  rw [hd, show (32 * (d : Int)).toNat = 32 * d from rfl]
  have e : k = n + (d : Int) := by rw [← hd, Int.add_comm, Int.sub_add_cancel]
  have hs : (b ++ zeros (32 * d)).size = b.size + 32 * d := by rw [Array.size_append, Array.size_replicate]
  refine ⟨by rw [hs, e, Int.mul_add, ← h1]; rfl, Int.le_trans h2 hk, fun i => ?_⟩
  clear h1 h2 hk hd e
  rw [← h3 i]
  by_cases hi : i < b.size
  · rw [byteAt_lt hi, byteAt_lt (by rw [hs]; exact Nat.lt_add_right _ hi), Array.getElem_append_left hi]
  · have hj := Nat.le_of_not_lt hi
    rw [byteAt_ge hj]
    by_cases hj' : i < (b ++ zeros (32 * d)).size
    · rw [byteAt_lt hj', Array.getElem_append_right hj]
      simp
    · exact byteAt_ge (Nat.le_of_not_lt hj')
theorem MemR.cut {b : Array UInt8} {n : Int} {f : Int → Int} (h : MemR b n f) {p s : Int} (h0 : 0 ≤ p) (h1 : 0 ≤ s) (h2 : p + s ≤ b.size) : KBw.bInts (b.extract p.toNat (p + s).toNat) = octF f p s.toNat := by
  obtain ⟨P, rfl⟩ := Int.eq_ofNat_of_zero_le h0
  obtain ⟨S, rfl⟩ := Int.eq_ofNat_of_zero_le h1
  have h3 : P + S ≤ b.size := Int.ofNat_le.mp h2
  show KBw.bInts (b.extract P (P + S)) = octF f (P : Int) S
  have hs : (b.extract P (P + S)).size = S := by rw [Array.size_extract, Nat.min_eq_left h3, Nat.add_sub_cancel_left]
  refine bInts_of (v := fun i : Nat => f ((P : Int) + (i : Int))) hs fun i hi => ?_
  show _ = f ((P + i : Nat) : Int)
  rw [← h.2.2, byteAt_lt (by rw [hs]; exact hi), byteAt_lt (Nat.lt_of_lt_of_le (Nat.add_lt_add_left hi P) h3), Array.getElem_extract]
theorem MemR.all {b : Array UInt8} {n : Int} {f : Int → Int} (h : MemR b n f) : KBw.bInts b = octF f 0 (32 * n).toNat := by
  obtain ⟨h1, h2, h3⟩ := h
  refine bInts_of (v := fun i : Nat => f (0 + (i : Int))) (by omega) fun i hi => ?_
  rw [h3, Int.zero_add]
theorem lay_out {f : Int → Int} {P i N : Nat} {v : Nat → Int} (h : i < P ∨ P + N ≤ i) : lay f (P : Int) v N (i : Int) = f (i : Int) := by
  unfold lay; rw [if_neg]; intro ⟨a, b⟩
  have a := Int.ofNat_le.mp a
  have b : i < P + N := Int.ofNat_lt.mp b
  rcases h with h | h
  · exact absurd a (Nat.not_le_of_lt h)
  · exact absurd b (Nat.not_lt_of_le h)
theorem lay_at {f : Int → Int} {P i N : Nat} {v : Nat → Int} (h : P ≤ i) (h2 : i < P + N) : lay f (P : Int) v N (i : Int) = v (i - P) := by
  unfold lay; rw [if_pos ⟨Int.ofNat_le.mpr h, Int.ofNat_lt.mpr h2⟩, Int.toNat_sub]
theorem baPut_at {b c : Array UInt8} {P i : Nat} (hP : P + c.size ≤ b.size) (hi : i < b.size) : byteAt (baPut b c P (P + c.size)) i = if P ≤ i ∧ i < P + c.size then byteAt c (i - P) else byteAt b i := by
  have hs : (baPut b c P (P + c.size)).size = b.size := baPut_size rfl hP
  have z : (b.extract 0 P).size = P := by rw [Array.size_extract, Nat.min_eq_left (Nat.le_trans (Nat.le_add_right _ _) hP), Nat.sub_zero]
  have zc : (b.extract 0 P ++ c).size = P + c.size := by rw [Array.size_append, z]
  rw [byteAt_lt (by rw [hs]; exact hi)]
  unfold baPut
  by_cases a1 : P ≤ i
  · by_cases a2 : i < P + c.size
    · rw [if_pos ⟨a1, a2⟩, byteAt_lt (Nat.sub_lt_left_of_lt_add a1 a2), Array.getElem_append_left (by rw [zc]; exact a2), Array.getElem_append_right (by rw [z]; exact a1)]
      simp only [z]
    · rw [if_neg fun q => a2 q.2, byteAt_lt hi, Array.getElem_append_right (by rw [zc]; exact Nat.le_of_not_lt a2)]
      simp only [Array.getElem_extract, zc, Nat.add_sub_cancel' (Nat.le_of_not_lt a2)]
  · have a1 := Nat.lt_of_not_le a1
    rw [if_neg fun q => Nat.not_le_of_lt a1 q.1, byteAt_lt hi, Array.getElem_append_left (by rw [zc]; exact Nat.lt_add_right _ a1), Array.getElem_append_left (by rw [z]; exact a1)]
    simp only [Array.getElem_extract, Nat.zero_add]
theorem MemR.put {b c : Array UInt8} {n : Int} {f : Int → Int} (h : MemR b n f) {p : Int} {v : Nat → Int} (h0 : 0 ≤ p) (h2 : p + c.size ≤ b.size) (hv : ∀ i, i < c.size → byteAt c i = v i) : MemR (baPut b c p.toNat (p.toNat + c.size)) n (lay f p v c.size) := by
  obtain ⟨h1, hn, h3⟩ := h
  obtain ⟨P, rfl⟩ := Int.eq_ofNat_of_zero_le h0
  have hP : P + c.size ≤ b.size := Int.ofNat_le.mp h2
  show MemR (baPut b c P (P + c.size)) n (lay f (P : Int) v c.size)
  have hs : (baPut b c P (P + c.size)).size = b.size := baPut_size rfl hP
  refine ⟨by rw [hs, h1], hn, fun i => ?_⟩
  by_cases hi : i < b.size
  · rw [baPut_at hP hi]
    by_cases q : P ≤ i ∧ i < P + c.size
    · rw [if_pos q, lay_at q.1 q.2, hv _ (Nat.sub_lt_left_of_lt_add q.1 q.2)]
    · rw [if_neg q, h3, lay_out]
      by_cases a : P ≤ i
      · exact .inr (Nat.le_of_not_lt fun r => q ⟨a, r⟩)
      · exact .inl (Nat.lt_of_not_le a)
  · have hj := Nat.le_of_not_lt hi
    rw [byteAt_ge (by rw [hs]; exact hj), lay_out (.inr (Nat.le_trans hP hj)), ← h3 i, byteAt_ge hj]
theorem MemR.set {b : Array UInt8} {n : Int} {f : Int → Int} (h : MemR b n f) {p x : Int} (h0 : 0 ≤ p) (h2 : p < b.size) (x0 : 0 ≤ x) (x1 : x < 256) : MemR (b.setIfInBounds p.toNat x.toNat.toUInt8) n (lay f p (fun _ => x) 1) := by
  obtain ⟨h1, hn, h3⟩ := h
  obtain ⟨P, rfl⟩ := Int.eq_ofNat_of_zero_le h0
  obtain ⟨X, rfl⟩ := Int.eq_ofNat_of_zero_le x0
  have hP : P < b.size := Int.ofNat_lt.mp h2
  have hX : X < 256 := Int.ofNat_lt.mp x1
  show MemR (b.setIfInBounds P X.toUInt8) n (lay f (P : Int) (fun _ => (X : Int)) 1)
  have hs : (b.setIfInBounds P X.toUInt8).size = b.size := Array.size_setIfInBounds
  refine ⟨by rw [hs, h1], hn, fun i => ?_⟩
  by_cases hi : i < b.size
  · rw [byteAt_lt (by rw [hs]; exact hi), Array.getElem_setIfInBounds]
    by_cases a : P = i
    · subst a
      rw [if_pos rfl, lay_at (Nat.le_refl _) (Nat.lt_succ_self _), Nat.toUInt8, UInt8.toNat_ofNat', Nat.mod_eq_of_lt hX]
    · rw [if_neg a, lay_out ((Nat.lt_or_gt_of_ne a).symm), ← h3 i, byteAt_lt hi]
  · have hj := Nat.le_of_not_lt hi
    rw [byteAt_ge (by rw [hs]; exact hj), lay_out (.inr (Nat.le_trans hP hj)), ← h3 i, byteAt_ge hj]
theorem little_at {z : Int} {c : Array UInt8} (h : KBw.bInts c = (KTBy.little 32 z).reverse) {i : Nat} (hi : i < 32) : byteAt c i = z / 256 ^ (31 - i) % 256 := by
  have hs := ints_size h
  have e := bInts_at h (i := i) (by omega)
  rw [KTBy.little_eq, List.getElem?_reverse (by rw [List.length_map, List.length_range]; exact hi)] at e
  simp only [List.length_map, List.length_range, List.getElem?_map] at e
  rw [List.getElem?_range (by omega)] at e
  simp only [Option.map_some] at e
  rw [← Option.some.inj e, show 32 - 1 - i = 31 - i from rfl]
theorem lay_in {f : Int → Int} {p : Int} {v : Nat → Int} {n : Nat} (hf : ∀ k, 0 ≤ f k ∧ f k < 256) (hv : ∀ i, 0 ≤ v i ∧ v i < 256) : ∀ k, 0 ≤ lay f p v n k ∧ lay f p v n k < 256 := fun k => by
  unfold lay; split
  · exact hv _
  · exact hf _
theorem Out.in {way place size word : Int} {f f' : Int → Int} {v : Value} (h : Out way f place size word v f') (hf : ∀ k, 0 ≤ f k ∧ f k < 256) : ∀ k, 0 ≤ f' k ∧ f' k < 256 := by
  have hm : ∀ x : Int, 0 ≤ x % 256 ∧ x % 256 < 256 := fun x => by omega
  rcases h with ⟨_, _, rfl⟩ | ⟨_, _, rfl⟩ | ⟨_, _, rfl⟩ | ⟨_, _, rfl⟩ | ⟨_, _, rfl⟩ | ⟨_, _, rfl⟩
  · exact hf
  · exact hf
  · exact lay_in hf fun i => hm _
  · exact hf
  · exact lay_in hf fun i => hm _
  · exact lay_in hf fun i => hm _
section
variable {prog : Program} {w : World} {A : Around} {E : Value → Shared → Prop} {s : Shared} {env : Env} {R : Result → Shared → Prop}
/-- S_range where the ground may turn -/
theorem S_rangeT {h₀ : Heap} {fs : List Addr} {x : PySem.Str} {xp : Pos} {body : List Stmt} {Q : Flow → Shared → Prop} {name : PySem.Str} {scope : Scope} {L a : Addr} {cd : Value} {r : Addr} {b₀ : Int} {t₀ u₀ v₀ : Tok} {n : Nat} {m₀ : PySem.Str → Option Value} {news : Led}
    (J : Nat → Heap → (PySem.Str → Option Value) → Led → Prop)
    (hh : A.handled = none) (hE : PassesOwn (model prog w) A (envOf name scope L a cd) E) (hr : IsRange s.heap r 0 b₀ 1 t₀ u₀ v₀) (hsmall : Builtin.Range.small 0 b₀ 1 = true) (hn : Builtin.Range.rangeSize 0 b₀ 1 = (n : Int))
    (hk : scope.kind = .function) (hx : (envOf name scope L a cd).kindOf x = some .local) (F : Fr h₀ L s.heap m₀) (N : News h₀ L s.heap news) (hj : J 0 h₀ m₀ news)
    (turn : ∀ (i : Nat) (t : Tok) h₁ m₁ news₁ h tk I o, i < n → KtsTurn fs h₀ h₁ → J i h₁ m₁ news₁ → (∀ p ∈ news₁, @Ne Nat p.1 I) → Fr h₁ L h (fun y => if y = x then some (.int i t) else m₁ y) → News h₁ L h ((I, o) :: news₁) →
      wpS (model prog w) A (execs body (envOf name scope L a cd)) (fun f s₂ => match f with
        | .ret v => Q (.ret v) s₂
        | .brk => Q .next s₂
        | .next => Ended (∃ h' tk' h₂ m' news', s₂ = { s with heap := h', toks := tk' } ∧ KtsTurn fs h₀ h₂ ∧ Fr h₂ L h' m' ∧ News h₂ L h' ((I, o) :: news') ∧ (∀ p ∈ news', @Ne Nat p.1 I) ∧ J (i + 1) h₂ m' news')
        | .cont => Ended (∃ h' tk' h₂ m' news', s₂ = { s with heap := h', toks := tk' } ∧ KtsTurn fs h₀ h₂ ∧ Fr h₂ L h' m' ∧ News h₂ L h' ((I, o) :: news') ∧ (∀ p ∈ news', @Ne Nat p.1 I) ∧ J (i + 1) h₂ m' news')) E { s with heap := h, toks := tk })
    (done : ∀ h₁ m₁ news₁ h tk, KtsTurn fs h₀ h₁ → J n h₁ m₁ news₁ → Fr h₁ L h m₁ → News h₁ L h news₁ → Q .next { s with heap := h, toks := tk }) :
    wpAny (model prog w) A (pyIter (.ref r)) (fun it s₂ => codeS (model prog w) A (.forLoop (.Name x xp) it body [] (envOf name scope L a cd)) (fun r s' => match r with | .ok f => Q f s' | .error e => cameBackBy (model prog w) A (envOf name scope L a cd) E e s') s₂) E s := by
  refine wpAny_pyIter_range hr hsmall ?_
  have W := Walks.range (prog := prog) (w := w) hh s.heap.objs.size 0 1 n
  let Inv : Nat → Shared → Prop := fun k s' => ∃ i h tk h₁ m₁ news₁, i ≤ n ∧ k = n - i ∧ s' = { s with heap := h, toks := tk } ∧ KtsTurn fs h₀ h₁ ∧ J i h₁ m₁ news₁ ∧ Fr h₁ L h m₁ ∧ News h₁ L h news₁ ∧ (∀ p ∈ news₁, @Ne Nat p.1 s.heap.objs.size) ∧ IsRangeIter h s.heap.objs.size (0 + (i : Nat) * 1) ((n : Int) - (i : Nat)) 1
  have hI0 : h₀.get? s.heap.objs.size = none := next_is_new F
  have hIL : @Ne Nat s.heap.objs.size L := fun e => absurd F.ns.lt (by rw [e]; exact Nat.lt_irrefl _)
  refine codeS_forLoop Inv ?_ n ⟨0, _, s.toks, h₀, m₀, news, Nat.zero_le _, rfl, rfl, KtsTurn.refl, hj, F.push _, (fun p hp => ⟨Heap.get?_push_of_some _ (N p hp).1, (N p hp).2⟩), ?_, ?_⟩
  · rintro k s' ⟨i, h, tk, h₁, m₁, news₁, hi, rfl, rfl, hT, hJ, F₁, N₁, hoff, hit⟩
    have hI1 : h₁.get? s.heap.objs.size = none := hT.none_ _ hI0
    have keepF : ∀ {h' : Heap}, (∀ b o, b ∉ [s.heap.objs.size] → h.get? b = some o → h'.get? b = some o) → Fr h₁ L h' m₁ ∧ News h₁ L h' news₁ := fun {h'} ke => by
      obtain ⟨oL, es, ep, hL, hLd, hLk, hLf⟩ := F₁.ns
      have kN : ∀ b o, h₁.get? b = some o → h'.get? b = some o := fun b o e => ke b o (fun m => by rw [List.mem_singleton.mp m, hI1] at e; cases e) (F₁.keep b o e)
      exact ⟨⟨⟨oL, es, ep, ke L oL (fun m => hIL (List.mem_singleton.mp m).symm) hL, hLd, hLk, hLf⟩, kN, F₁.above⟩, fun p hp => ⟨ke _ _ (fun m => hoff p hp (List.mem_singleton.mp m)) (N₁ p hp).1, (N₁ p hp).2⟩⟩
    by_cases hin : i < n
    · refine W.item i _ _ _ hin hit ?_
      rintro v h' tk' ⟨t, rfl⟩ hst ke
      obtain ⟨F₂, N₂⟩ := keepF ke
      have e1 : (0 + (i : Int) * 1) = (i : Int) := by omega
      rw [e1]
      refine wpAny_assign_Name (wpAny_storeName_local (env := envOf name scope L a cd) hx F₂.ns (fun h'' hn'' hs'' => ?_) (by rw [show (envOf name scope L a cd).scope.kind = .function from hk]; rfl))
      have hst2 : IsRangeIter h'' s.heap.objs.size (0 + ((i + 1 : Nat) : Int) * 1) ((n : Int) - ((i + 1 : Nat) : Int)) 1 := (hs''.2 _ hIL).trans hst
      refine wpS_mono (turn i t h₁ m₁ news₁ h'' (tk' + 1) s.heap.objs.size (rangeO i n) hin hT hJ hoff (F₂.set hn'' hs'') ?_) (fun f s₃ hf => ?_) fun e s₃ x => hE e s₃ x
      · intro p hp
        rcases List.mem_cons.mp hp with rfl | hp
        · exact ⟨hst2, hIL, hI1⟩
        · exact N₂.set hs'' p hp
      · have fin : (∃ h' tk' h₂ m' news', s₃ = { s with heap := h', toks := tk' } ∧ KtsTurn fs h₀ h₂ ∧ Fr h₂ L h' m' ∧ News h₂ L h' ((s.heap.objs.size, rangeO i n) :: news') ∧ (∀ p ∈ news', @Ne Nat p.1 s.heap.objs.size) ∧ J (i + 1) h₂ m' news') → ∃ k', k' < n - i ∧ Inv k' s₃ := by
          rintro ⟨h', tk', h₂, m', news', e, T', F', N', ho', hJ'⟩
          exact ⟨n - (i + 1), by omega, i + 1, h', tk', h₂, m', news', hin, rfl, e, T', hJ', F', fun p hp => N' p (List.mem_cons_of_mem _ hp), ho', (N' _ (List.mem_cons.mpr (.inl rfl))).1⟩
        cases f with
        | next => exact fin hf
        | cont => exact fin hf
        | brk => exact hf
        | ret v => exact hf
    · have e : i = n := by omega
      subst e
      refine W.done _ _ _ hit fun h' tk' ke => ?_
      obtain ⟨F₂, N₂⟩ := keepF ke
      exact wpAny_execs_nil (done _ _ _ _ _ hT hJ F₂ N₂)
  · intro p hp e
    exact absurd (Heap.lt_size (N p hp).1) (by rw [e]; exact Nat.lt_irrefl _)
  · show IsRangeIter _ _ _ _ _
    rw [hn]
    simpa using Heap.get?_push_size _ rfl
end
set_option maxHeartbeats 4000000 in
theorem jump_spec (w : World) (t : Tok) :
    CSpec w 10 123 [.bytes #[91] t] [] (fun _ => True) (fun v T' => ∃ x o, v = .ref x ∧ T' = [(x, o)]) (fun _ _ _ _ _ => False) := by
  unfold CSpec
  k_fill
  intro dp un gd outer base g mean mg mb s R B hst hsz hN X Tp hd hu hG hok her
  have hb : Binds [(Str.ofString "code", .bytes #[91] t)] := .mk
  walk_at "mine enter"
  k_steps
  all_goals walk_at "mine end"
  all_goals exact ⟨[(_, _)], ⟨_, _, rfl, rfl⟩, by walk_at "mine mem"⟩
set_option maxHeartbeats 4000000 in
theorem pay_spec (w : World) (x dx aMsg aSt aMem aJ : Addr) (gas a : Int) (tk : Nat → Tok) (tg ta : Tok) (hx1 : @Ne Nat dx x) :
    CSpec w 20 256 [.ref x, .int a ta] [(x, instObj 287 dx), (dx, frmO w aMsg aSt aMem gas aJ tk tg)] (fun _ => True)
      (fun v T' => v = .none ∧ a ≤ gas ∧ ∃ tg, T' = [(x, instObj 287 dx), (dx, frmO w aMsg aSt aMem (gas - a) aJ tk tg)])
      (fun _ g outer e h' => gas < a ∧ HaltEr w "gas" [(x, instObj 287 dx), (dx, frmO w aMsg aSt aMem gas aJ tk tg)] g outer e h') := by
  unfold CSpec frmO frmE
  k_fill
  intro dp un gd outer base g mean mg mb s R B hst hsz hN X Tp hd hu hG hok her
  have hb : Binds [(Str.ofString "self", .ref x), (Str.ofString "amount", .int a ta)] := .mk
  walk_at "mine enter"
  walk_at "mine steps"
  · walk_at "mine leaveD"
    intro h2 RD up
    exact her _ _ _ ⟨by assumption, _, _, _, RD⟩ up
  · walk_at "mine end"
    exact ⟨[(x, _), (dx, _)], ⟨rfl, by omega, _, rfl⟩, by walk_at "mine mem"⟩
theorem rest_in {G h₀ h : Heap} {L : Addr} {news rest : Led} (N : News h₀ L h news) (hr : ∀ q ∈ rest, G.get? q.1 = some q.2) (hi : ∀ q ∈ rest, q ∈ news) : ∀ q ∈ rest, G.get? q.1 = some q.2 ∧ q.1 ≠ L ∧ h₀.get? q.1 = none :=
  fun q hq => ⟨hr q hq, (N q (hi q hq)).2⟩
theorem words_40 : True := by
  k_with "mine S readword" => ( refine' useSX (readword_spec _ _ _ _ _ _ _ _ _ _ _ ?w76s1 ?w76s2 ?w76s3 ?w76s4 ?w76s5 ?w76s6 ?w76s7) (Take.cons ?w76ta (Take.cons ?w76tb (Take.cons ?w76tc Take.nil))) ?kB ?kF ?kN ?kX ?kT ?khf ?khk ?kd ?ku ?kG ?_ ?kE; (case kF => k_asm); (case kN => k_asm); (case w76ta => walk_at "mine take1"); (case w76tb => walk_at "mine take1"); (case w76tc => walk_at "mine take1"); (case w76s1 => k_ne); (case w76s2 => k_ne); (case w76s3 => k_ne); (case w76s4 => assumption); (case w76s5 => assumption); (case w76s6 => assumption); (case w76s7 => assumption); walk_at "mine std"; (case kG => exact fun _ _ => trivial))
  k_with "mine S writeword" => ( refine' useSX (writeword_spec _ _ _ _ _ _ _ _ _ _ _ _ _ ?w77s1 ?w77s2 ?w77s3 ?w77s4 ?w77s5 ?w77s6 ?w77s7 ?w77s8 ?w77s9) (Take.cons ?w77ta (Take.cons ?w77tb (Take.cons ?w77tc Take.nil))) ?kB ?kF ?kN ?kX ?kT ?khf ?khk ?kd ?ku ?kG ?_ ?kE; (case kF => k_asm); (case kN => k_asm); (case w77ta => walk_at "mine take1"); (case w77tb => walk_at "mine take1"); (case w77tc => walk_at "mine take1"); (case w77s1 => k_ne); (case w77s2 => k_ne); (case w77s3 => k_ne); (case w77s4 => assumption); (case w77s5 => assumption); (case w77s6 => assumption); (case w77s7 => assumption); (case w77s8 => assumption); (case w77s9 => assumption); walk_at "mine std"; (case kG => exact fun _ _ => trivial))
  k_with "mine S put" => ( refine' useSX (put_spec _ _ _ _ _ _ _ _ _ _ _ _ _ ?w78s1 ?w78s2 ?w78s3 ?w78s4 ?w78s5 ?w78s6 ?w78s7) (Take.cons ?w78ta (Take.cons ?w78tb (Take.cons ?w78tc Take.nil))) ?kB ?kF ?kN ?kX ?kT ?khf ?khk ?kd ?ku ?kG ?_ ?kE; (case kF => k_asm); (case kN => k_asm); (case w78ta => walk_at "mine take1"); (case w78tb => walk_at "mine take1"); (case w78tc => walk_at "mine take1"); (case w78s1 => k_ne); (case w78s2 => k_ne); (case w78s3 => k_ne); (case w78s4 => assumption); (case w78s5 => assumption); (case w78s6 => assumption); (case w78s7 => assumption); walk_at "mine std"; (case kG => exact fun _ _ => trivial))
  k_with "mine mem1" => k_mem
  k_with "getAttr ref" => ( k_here; (with_reducible show wpAny _ _ (getAttr (Value.ref _) (Str.ofString "word") _) _ _ _); k_dflt (refine' excword_L (K := Mine.hd.heap_1 _) (C := 107) ?kX ?kF ?kN ?w80k1 ?w80k2 ?w80k3 ?w80k4 ?w80k5 ?w80k6 ?w80k7 ?w80k8 ?w80k9 ?w80k10 ?_; (case kX => assumption); (case kF => k_asm); (case kN => k_asm); (case w80k1 => k_mem); (case w80k2 => assumption); (case w80k3 => assumption); (case w80k4 => assumption); (case w80k5 => k_mem); (case w80k6 => k_is); (case w80k7 => k_is); (case w80k8 => k_is); (case w80k9 => k_is); (case w80k10 => k_is); k_whole))
  trivial
theorem MemR.cutT {b : Array UInt8} {n : Int} {f : Int → Int} (h : MemR b n f) {p s : Int} (h0 : 0 ≤ p) (h1 : 0 ≤ s) : KBw.bInts ((b ++ zeros (32 * (touchI n p s - n)).toNat).extract p.toNat (p + s).toNat) = octF f p s.toNat := by
  have hg := h.grow (touch_ge (n := n) (p := p) (s := s))
  by_cases hz : s = 0
  · have e : (p + s).toNat = p.toNat := by omega
    have e2 : s.toNat = 0 := by omega
    rw [e, e2]
    refine bInts_of (n := 0) (by rw [Array.size_extract]; omega) fun i hi => absurd hi (Nat.not_lt_zero _)
  · have := touch_cover (n := n) (p := p) (s := s) hz
    exact hg.cut h0 h1 (by rw [hg.1]; exact this)
theorem MemR.putT {b c : Array UInt8} {n : Int} {f : Int → Int} (h : MemR b n f) {p : Int} {v : Nat → Int} (h0 : 0 ≤ p) (hv : ∀ i, i < c.size → byteAt c i = v i) :
    MemR (baPut (b ++ zeros (32 * (touchI n p c.size - n)).toNat) c p.toNat (p.toNat + c.size)) (touchI n p c.size) (lay f p v c.size) := by
  have hg := h.grow (touch_ge (n := n) (p := p) (s := c.size))
  by_cases hz : c.size = 0
  · rw [baPut_none hz, hz, lay_zero]
    rw [hz] at hg
    exact hg
  · have := touch_cover (n := n) (p := p) (s := c.size) (by omega)
    exact hg.put h0 (by rw [hg.1]; exact this) hv
theorem MemR.setT {b : Array UInt8} {n : Int} {f : Int → Int} (h : MemR b n f) {p x : Int} (h0 : 0 ≤ p) :
    MemR ((b ++ zeros (32 * (touchI n p 1 - n)).toNat).setIfInBounds p.toNat (x % 256).toNat.toUInt8) (touchI n p 1) (lay f p (fun _ => x % 256) 1) := by
  have hg := h.grow (touch_ge (n := n) (p := p) (s := 1))
  have := touch_cover (n := n) (p := p) (s := 1) (by decide)
  exact hg.set h0 (by rw [hg.1]; omega) (by omega) (by omega)
theorem bytes_size {c : Array UInt8} {l : List Int} (h : KBw.bInts c = l) : c.size = l.length := by rw [← h, KBw.ints_length]
theorem mod_at {c : Array UInt8} {word : Int} {n : Nat} (h : KBw.bInts c = List.map (fun k' => (word + k').fmod 256) (rangeKs 0 n)) {i : Nat} (hi : i < c.size) (hn : i < n) : byteAt c i = (word + (i : Int)) % 256 := by
  have e := bInts_at h hi
  unfold rangeKs at e
  simp only [List.getElem?_map] at e
  rw [List.getElem?_range hn] at e
  simp only [Option.map_some, Int.zero_add] at e
  rw [← Option.some.inj e, Int.fmod_eq_emod_of_nonneg _ (by decide)]
/-- the way of an exception out of a try's body, shown once and then named -/
theorem foldE {M : Model} {A : Around} {body : List Stmt} {env : Env} {Q : Flow → Shared → Prop} {E : Value → Shared → Prop} {s : Shared} {P : Env → (Value → Shared → Prop) → Prop} (hP : P env E) (k : ∀ E', P env E' → wpS M A (execs body env) Q E' s) : wpS M A (execs body env) Q E s := k E hP
theorem big_of {a b n p : Int} (h : a = b) (q : 131072 < touchI n p b) : 131072 < touchI n p a := by rw [h]; exact q
theorem halt_mem {t : Tok} : ∃ t', Value.str (Str.ofString "halt " ++ Str.ofString "memory") t = .str "halt memory" t' := ⟨t, by rw [show Str.ofString "halt " ++ Str.ofString "memory" = Str.ofString "halt memory" from by decide +kernel]⟩
set_option maxHeartbeats 8000000 in
theorem tried_spec (w : World) (x dx aB : Addr) (b : Array UInt8) (f : Int → Int) (n way place size word : Int) (t1 t2 t3 ta tb tc td : Tok) (hx1 : @Ne Nat dx x) (hx2 : @Ne Nat aB x) (hx3 : @Ne Nat aB dx)
    (hR : MemR b n f) (hf : ∀ k, 0 ≤ f k ∧ f k < 256) (hn1 : n ≤ 131072) (hw0 : 0 ≤ way) (hw1 : way ≤ 6) (h0 : 0 ≤ place) (hs0 : 0 ≤ size) (hs1 : size ≤ 100) (hz : 0 ≤ word) (hz1 : word < 256 ^ 32) :
    TSpec w 60 372 [.ref x, .int way ta, .int place tb, .int size tc, .int word td] [(x, instObj 210 dx), (dx, memO w aB n t1 t2 t3), (aB, baObj b)] (fun _ => True)
      (fun v T' => (way = 0 ∧ (∃ t, v = .int (touchI n place size) t) ∧ T' = [(x, instObj 210 dx), (dx, memO w aB n t1 t2 t3), (aB, baObj b)]) ∨
        (way ≠ 0 ∧ 131072 < touchI n place (sizeW way size) ∧ (∃ t, v = .str "halt memory" t) ∧ T' = [(x, instObj 210 dx), (dx, memO w aB n t1 t2 t3), (aB, baObj b)]) ∨
        (way ≠ 0 ∧ touchI n place (sizeW way size) ≤ 131072 ∧ ∃ b' f' t1 t2 t3, T' = [(x, instObj 210 dx), (dx, memO w aB (touchI n place (sizeW way size)) t1 t2 t3), (aB, baObj b')] ∧ MemR b' (touchI n place (sizeW way size)) f' ∧ Out way f place size word v f')) := by
  have hn0 : 0 ≤ n := hR.2.1
  have hbs : (b.size : Int) = 32 * n := hR.1
  unfold TSpec
  k_fill
  intro dp un gd outer base g mean mg mb s R B hst hsz hN X Tp XB TB hd hu hG hok
  have hb : Binds [(Str.ofString "memory", .ref x), (Str.ofString "way", .int way ta), (Str.ofString "place", .int place tb), (Str.ofString "size", .int size tc), (Str.ofString "word", .int word td)] := .mk
  walk_at "mine enterTC"
  (with_reducible rename Fr _ _ _ _ => FL)
  (with_reducible rename News _ _ _ _ => NL)
  refine S_cons (S_Try ?_)
  refine foldE (P := fun env E' => ∀ (G : Heap) (m : PySem.Str → Option Value) (e : Addr) (h2 : Heap) (tk2 : Nat) (rest : Led) (L : Addr), env.frame = some L → Fr g L G m → (∀ q ∈ rest, G.get? q.1 = some q.2 ∧ q.1 ≠ L ∧ g.get? q.1 = none) → HaltEr w "memory" [(x, instObj 210 dx), (dx, memO w aB n t1 t2 t3), (aB, baObj b)] G (env :: outer) e h2 → G.UpToSlots h2 → 131072 < touchI n place (sizeW way size) → way ≠ 0 → E' (.ref e) { s with heap := h2, toks := tk2 }) ?_ (fun E0 hE0 => ?_)
  · intro G m e h2 tk2 rest L hL FG hrest ⟨d, tk, t, RD⟩ up hbig hw
    cases hL
    clear FL NL
    try dsimp only
    refine' caughtD (KF := Mine.hd.heap_1 w.params) RD FG B up XB TB hrest ?kx ?kq ?kk
    case kx => k_is
    case kq => exact rfl
    case kk =>
      intro h3 g3 tk3 oe3 vs3 T3 F3 N3 hc3 hd3 hf3 B3 X3 Tp3
      (try dsimp only [List.cons_append, List.nil_append] at N3)
      walk_at "mine steps"
      (try k_unfold)
      (try dsimp only)
      refine ⟨_, _, _, _, rfl, rfl, F3, fun q hq => N3 q (List.mem_cons_of_mem _ hq), fun h5 m5 tk5 F5 N5 => ?_⟩
      (try dsimp only [List.cons_append, List.nil_append] at N5)
      (try dsimp only)
      refine endT hok T3 F5 N5 ⟨[(x, _), (dx, _), (aB, _)], .inr (.inl ⟨hw, hbig, halt_mem, rfl⟩), by walk_at "mine mem"⟩
  refine S_cons (S_If (wpS_any ?_))
  walk_at "mine stepsS"
  · refine S_cons (wpS_any ?_)
    walk_at "mine stepsS"
    walk_at "mine endT"
    exact ⟨[(x, _), (dx, _), (aB, _)], .inl ⟨by assumption, ⟨_, rfl⟩, rfl⟩, by walk_at "mine mem"⟩
  walk_at "mine nils"
  refine S_cons (S_If (wpS_any ?_))
  walk_at "mine stepsS"
  · have hW : sizeW way size = size := sizeW3 (by walk_at "mine way")
    refine S_cons (S_Return (S_Meth1 (K := Mine.hd.heap_1 w.params) ?_))
    walk_at "mine stepsS"
    (with_reducible rename News _ _ _ _ => N1)
    walk_at "mine S grown"
    case kE => exact fun G e h2 tk2 FG hrest ⟨hbig, hEr⟩ up => hE0 _ _ _ _ _ _ _ rfl FG (rest_in N1 hrest (by walk_at "mine mem")) hEr up (big_of hW hbig) (by omega)
    rintro v T' h2 tk2 ⟨rfl, hsm, t1, t2, t3, rfl⟩ F2 N2 d1 d2
    clear d1 d2
    try dsimp only [List.cons_append, List.nil_append] at N2
    try dsimp only
    try k_sweep
    try k_fold
    walk_at "mine endT"
    exact ⟨[(x, _), (dx, _), (aB, _)], .inr (.inr ⟨by omega, by rw [hW]; assumption, _, f, _, _, _, by rw [hW], by rw [hW]; exact hR.grow touch_ge, .inl ⟨by assumption, rfl, rfl⟩⟩), by walk_at "mine mem"⟩
  walk_at "mine nils"
  refine S_cons (S_If (wpS_any ?_))
  walk_at "mine stepsS"
  · have hW : sizeW way size = size := sizeW3 (by walk_at "mine way")
    refine S_cons (S_Return (S_Meth1 (K := Mine.hd.heap_1 w.params) ?_))
    walk_at "mine stepsS"
    (with_reducible rename News _ _ _ _ => N1)
    walk_at "mine S read"
    case kE => exact fun G e h2 tk2 FG hrest ⟨hbig, hEr⟩ up => hE0 _ _ _ _ _ _ _ rfl FG (rest_in N1 hrest (by walk_at "mine mem")) hEr up (big_of hW hbig) (by omega)
    rintro v T' h2 tk2 ⟨hsm, ⟨tB, rfl⟩, t1, t2, t3, rfl⟩ F2 N2 d1 d2
    clear d1 d2
    try dsimp only [List.cons_append, List.nil_append] at N2
    try dsimp only
    try k_sweep
    try k_fold
    walk_at "mine endT"
    exact ⟨[(x, _), (dx, _), (aB, _)], .inr (.inr ⟨by omega, by rw [hW]; assumption, _, f, _, _, _, by rw [hW], by rw [hW]; exact hR.grow touch_ge, .inr (.inl ⟨by assumption, ⟨_, _, rfl, hR.cutT h0 hs0⟩, rfl⟩)⟩), by walk_at "mine mem"⟩
  walk_at "mine nils"
  refine S_cons (S_If (wpS_any ?_))
  walk_at "mine stepsS"
  · have hW : sizeW way size = size := sizeW3 (by walk_at "mine way")
    refine S_cons (S_Return (S_Meth1 (K := Mine.hd.heap_1 w.params) ?_))
    walk_at "mine stepsS"
    (with_reducible rename KBa.In _ => hin)
    have hc := KBa.ints_make hin
    clear hin
    generalize byteArr (List.map (fun k' => (word + k').fmod 256) (rangeKs 0 (size - 0).toNat)) = c at hc ⊢
    have hcs : c.size = size.toNat := by rw [bytes_size hc, List.length_map, rangeKs_length, Int.sub_zero]
    have hcI : (c.size : Int) = size := by rw [hcs]; exact Int.toNat_of_nonneg hs0
    have hM := hR.putT (c := c) (p := place) (v := fun i => (word + (i : Int)) % 256) h0 fun i hi => mod_at hc hi (by rw [Int.sub_zero, ← hcs]; exact hi)
    (with_reducible rename News _ _ _ _ => N1)
    walk_at "mine S write"
    case kE => exact fun G e h2 tk2 FG hrest ⟨hbig, hEr⟩ up => hE0 _ _ _ _ _ _ _ rfl FG (rest_in N1 hrest (by walk_at "mine mem")) hEr up (big_of (hW.trans hcI.symm) hbig) (by omega)
    rintro v T' h2 tk2 ⟨rfl, hsm, t1, t2, t3, rfl⟩ F2 N2 d1 d2
    rw [hcI] at hsm hM
    rw [hcs] at hM
    rw [hcI, hcs] at N2
    clear d1 d2
    try dsimp only [List.cons_append, List.nil_append] at N2
    try dsimp only
    try k_sweep
    try k_fold
    walk_at "mine endT"
    exact ⟨[(x, _), (dx, _), (aB, _)], .inr (.inr ⟨by omega, by rw [hW]; assumption, _, _, _, _, _, by rw [hW], by rw [hW]; exact hM, .inr (.inr (.inl ⟨by assumption, rfl, rfl⟩))⟩), by walk_at "mine mem"⟩
  walk_at "mine nils"
  refine S_cons (S_If (wpS_any ?_))
  walk_at "mine stepsS"
  · have hW : sizeW way size = 32 := sizeW45 (by walk_at "mine way") (by walk_at "mine way")
    refine S_cons (S_Return (S_Meth1 (K := Mine.hd.heap_1 w.params) ?_))
    walk_at "mine stepsS"
    (with_reducible rename News _ _ _ _ => N1)
    walk_at "mine S readword"
    case kE => exact fun G e h2 tk2 FG hrest ⟨hbig, hEr⟩ up => hE0 _ _ _ _ _ _ _ rfl FG (rest_in N1 hrest (by walk_at "mine mem")) hEr up (big_of hW hbig) (by omega)
    rintro v T' h2 tk2 ⟨hsm, ⟨tB, rfl⟩, t1, t2, t3, rfl⟩ F2 N2 d1 d2
    clear d1 d2
    try dsimp only [List.cons_append, List.nil_append] at N2
    try dsimp only
    try k_sweep
    try k_fold
    walk_at "mine endT"
    exact ⟨[(x, _), (dx, _), (aB, _)], .inr (.inr ⟨by omega, by rw [hW]; assumption, _, f, _, _, _, by rw [hW], by rw [hW]; exact hR.grow touch_ge, .inr (.inr (.inr (.inl ⟨by assumption, exV (hR.cutT (s := 32) h0 (by decide)), rfl⟩)))⟩), by walk_at "mine mem"⟩
  walk_at "mine nils"
  refine S_cons (S_If (wpS_any ?_))
  walk_at "mine stepsS"
  · have hW : sizeW way size = 32 := sizeW45 (by walk_at "mine way") (by walk_at "mine way")
    refine S_cons (S_Return (S_Meth1 (K := Mine.hd.heap_1 w.params) ?_))
    walk_at "mine stepsS"
    (with_reducible rename News _ _ _ _ => N1)
    walk_at "mine S writeword"
    case kE => exact fun G e h2 tk2 FG hrest ⟨hbig, hEr⟩ up => hE0 _ _ _ _ _ _ _ rfl FG (rest_in N1 hrest (by walk_at "mine mem")) hEr up (big_of hW hbig) (by omega)
    rintro v T' h2 tk2 ⟨rfl, hsm, c, t1, t2, t3, hc, rfl⟩ F2 N2 d1 d2
    have hcs := ints_size hc
    have hM := hR.putT (c := c) (p := place) (v := fun i => word / 256 ^ (31 - i) % 256) h0 fun i hi => little_at hc (hcs ▸ hi)
    rw [hcs] at hM
    clear d1 d2
    try dsimp only [List.cons_append, List.nil_append] at N2
    try dsimp only
    try k_sweep
    try k_fold
    walk_at "mine endT"
    exact ⟨[(x, _), (dx, _), (aB, _)], .inr (.inr ⟨by omega, by rw [hW]; assumption, _, _, _, _, _, by rw [hW], by rw [hW]; exact hM, .inr (.inr (.inr (.inr (.inl ⟨by assumption, rfl, rfl⟩))))⟩), by walk_at "mine mem"⟩
  walk_at "mine nils"
  · have h6 : way = 6 := way_six hw0 hw1 (by assumption) (by assumption) (by assumption) (by assumption) (by assumption) (by assumption)
    have hW : sizeW way size = 1 := sizeW6 h6
    refine S_cons (S_Return (S_Meth1 (K := Mine.hd.heap_1 w.params) ?_))
    walk_at "mine stepsS"
    (with_reducible rename News _ _ _ _ => N1)
    walk_at "mine S put"
    case kE => exact fun G e h2 tk2 FG hrest ⟨hbig, hEr⟩ up => hE0 _ _ _ _ _ _ _ rfl FG (rest_in N1 hrest (by walk_at "mine mem")) hEr up (big_of hW hbig) (by omega)
    rintro v T' h2 tk2 ⟨rfl, hsm, t1, t2, t3, rfl⟩ F2 N2 d1 d2
    clear d1 d2
    try dsimp only [List.cons_append, List.nil_append] at N2
    try dsimp only
    try k_sweep
    try k_fold
    walk_at "mine endT"
    exact ⟨[(x, _), (dx, _), (aB, _)], .inr (.inr ⟨by omega, by rw [hW]; assumption, _, _, _, _, _, by rw [hW], by rw [hW]; exact hR.setT h0, .inr (.inr (.inr (.inr (.inr ⟨h6, rfl, rfl⟩))))⟩), by walk_at "mine mem"⟩
section
variable {M : Model} {A : Around} {E : Value → Shared → Prop} {s : Shared} {env : Env}
theorem S_AssignName {x : PySem.Str} {pos' pos : Pos} {value : PySem.Expr} {Q : Flow → Shared → Prop} (h : wpS M A (eval value env) (fun v s₁ => wpAny M A (storeName env x v) (fun _ => Q .next) E s₁) E s)
    (hs : swapsWith value (some (.Name x pos')) pos.line env = pure false := by rfl) : wpS M A (exec (.Assign [.Name x pos'] value pos) env) Q E s := fun Γ p hΓ hc hb => by
  simp only [exec_Assign_Name env x pos' value pos hs, Sem.wp_bind', Sem.wp_cmd_standAt, Sem.wp_bindName, Sem.wp_pure']
  exact Sem.wp_mono M Γ _ (fun v _ s₁ h₁ => h₁ Γ _ hΓ) (fun _ _ _ h' => h') _ _ (h Γ _ hΓ hc hb)
theorem S_Tuple {e : PySem.Expr} {rest : List PySem.Expr} {k : Nat} {pos : Pos} {Q : Value → Shared → Prop}
    (h : wpS M A (eval e env) (fun v s₁ => wpAny M A (spliced (backTo pos (starEach rest env))) (fun vs s₂ => wpAny M A (newTuple (v :: vs)) Q E s₂) E s₁) E s)
    (hs : starEach (e :: rest) env = (false, eval e env) :: starEach rest env := by rfl) : wpS M A (eval (.Tuple (e :: rest) k pos) env) Q E s := by
  rw [arm_eval_Tuple, hs]
  refine wpS_bind (wpS_standAt (wpS_bind ?_))
  show wpS M A (spliced ((false, eval e env) :: backTo pos (starEach rest env))) _ E s
  rw [spliced]
  refine wpS_bind (wpS_mono h (fun v s₁ h₁ => ?_) fun _ _ x => x)
  simp only [Bool.false_eq_true, if_false]
  exact wpS_bind (wpS_pure (wpS_bind (wpS_holding (wpS_mono (wpS_any h₁) (fun vs s₂ h₂ => wpS_pure (wpS_any h₂)) fun _ _ x => x))))
end
theorem TSpec.mono {w : World} {d : Nat} {f : Addr} {args : List Value} {T : Led} {G : Heap → Prop} {Ok Ok' : Value → Led → Prop} (h : TSpec w d f args T G Ok) (hi : ∀ v T', Ok v T' → Ok' v T') : TSpec w d f args T G Ok' :=
  fun dp un gd outer base g mean mg mb s R a b c d e f' i j k l m n => h dp un gd outer base g mean mg mb s R a b c d e f' i j k l m fun v T' h' tk' g' t ok st nt => n v T' h' tk' g' t (hi _ _ ok) st nt
/-- what a doing hands back, the words and the octets behind it -/
noncomputable def Res (n way place size word : Int) (f : Int → Int) (v : Value) (n' : Int) (f' : Int → Int) : Prop :=
  (way = 0 ∧ (∃ t, v = .int (touchI n place size) t) ∧ n' = n ∧ f' = f) ∨
  (way ≠ 0 ∧ 131072 < touchI n place (sizeW way size) ∧ (∃ t, v = .str "halt memory" t) ∧ n' = n ∧ f' = f) ∨
  (way ≠ 0 ∧ touchI n place (sizeW way size) ≤ 131072 ∧ n' = touchI n place (sizeW way size) ∧ Out way f place size word v f')
theorem bInts_inj {a b : Array UInt8} (h : KBw.bInts a = KBw.bInts b) : a.toList = b.toList := by
  unfold KBw.bInts at h
  refine List.map_inj_right (f := fun c : UInt8 => (c.toNat : Int)) ?_ |>.mp h
  intro x y e
  exact UInt8.toNat_inj.mp (Int.ofNat.inj e)
section
variable {prog : Program} {w : World} {A : Around} {E : Value → Shared → Prop} {s : Shared}
set_option maxHeartbeats 2000000 in
theorem Out.det {way place size word : Int} {f f1 f2 : Int → Int} {v v' : Value} (h1 : Out way f place size word v f1) (h2 : Out way f place size word v' f2) :
    f1 = f2 ∧ ∀ Q : Value → Shared → Prop, Q (.bool false) s → wpAny (model prog w) A (compareOp .NotEq v v') Q E s := by
  unfold Out at h1 h2
  have nn : ∀ {v v' : Value}, v = .none → v' = .none → ∀ Q : Value → Shared → Prop, Q (.bool false) s → wpAny (model prog w) A (compareOp .NotEq v v') Q E s := fun e1 e2 Q q => by rw [e1, e2]; exact EqNone.ne_none_none q
  rcases h1 with ⟨a1, b1, c1⟩ | ⟨a1, b1, c1⟩ | ⟨a1, b1, c1⟩ | ⟨a1, b1, c1⟩ | ⟨a1, b1, c1⟩ | ⟨a1, b1, c1⟩
  · obtain ⟨a2, b2, c2⟩ : way = 1 ∧ v' = .none ∧ f2 = f := by
      rcases h2 with h | h | h | h | h | h
      · exact h
      all_goals (exfalso; have := h.1; omega)
    exact ⟨c1.trans c2.symm, nn b1 b2⟩
  · obtain ⟨a2, b2, c2⟩ : way = 2 ∧ (∃ b t, v' = .bytes b t ∧ KBw.bInts b = octF f place size.toNat) ∧ f2 = f := by
      rcases h2 with h | h | h | h | h | h
      · exfalso; have := h.1; omega
      · exact h
      all_goals (exfalso; have := h.1; omega)
    obtain ⟨b, t, rfl, hb⟩ := b1
    obtain ⟨c, u, rfl, hc⟩ := b2
    exact ⟨c1.trans c2.symm, fun Q q => ne_bytes (by rw [bInts_inj (hb.trans hc.symm)]; simpa using q)⟩
  · obtain ⟨a2, b2, c2⟩ : way = 3 ∧ v' = .none ∧ f2 = lay f place (fun i => (word + (i : Int)) % 256) size.toNat := by
      rcases h2 with h | h | h | h | h | h
      · exfalso; have := h.1; omega
      · exfalso; have := h.1; omega
      · exact h
      all_goals (exfalso; have := h.1; omega)
    exact ⟨c1.trans c2.symm, nn b1 b2⟩
  · obtain ⟨a2, b2, c2⟩ : way = 4 ∧ (∃ t, v' = .int (KFB.value (octF f place 32)) t) ∧ f2 = f := by
      rcases h2 with h | h | h | h | h | h
      · exfalso; have := h.1; omega
      · exfalso; have := h.1; omega
      · exfalso; have := h.1; omega
      · exact h
      all_goals (exfalso; have := h.1; omega)
    obtain ⟨t, rfl⟩ := b1
    obtain ⟨u, rfl⟩ := b2
    exact ⟨c1.trans c2.symm, fun Q q => PyProof.Rows.ne_int (by simpa using q)⟩
  · obtain ⟨a2, b2, c2⟩ : way = 5 ∧ v' = .none ∧ f2 = lay f place (fun i => word / 256 ^ (31 - i) % 256) 32 := by
      rcases h2 with h | h | h | h | h | h
      · exfalso; have := h.1; omega
      · exfalso; have := h.1; omega
      · exfalso; have := h.1; omega
      · exfalso; have := h.1; omega
      · exact h
      all_goals (exfalso; have := h.1; omega)
    exact ⟨c1.trans c2.symm, nn b1 b2⟩
  · obtain ⟨a2, b2, c2⟩ : way = 6 ∧ v' = .none ∧ f2 = lay f place (fun _ => word % 256) 1 := by
      rcases h2 with h | h | h | h | h | h
      · exfalso; have := h.1; omega
      · exfalso; have := h.1; omega
      · exfalso; have := h.1; omega
      · exfalso; have := h.1; omega
      · exfalso; have := h.1; omega
      · exact h
    exact ⟨c1.trans c2.symm, nn b1 b2⟩
theorem Res.det {n way place size word : Int} {f f1 f2 : Int → Int} {v v' : Value} {n1 n2 : Int} (h1 : Res n way place size word f v n1 f1) (h2 : Res n way place size word f v' n2 f2) :
    n1 = n2 ∧ f1 = f2 ∧ ∀ Q : Value → Shared → Prop, Q (.bool false) s → wpAny (model prog w) A (compareOp .NotEq v v') Q E s := by
  rcases h1 with ⟨a1, ⟨t, rfl⟩, rfl, rfl⟩ | ⟨a1, b1, ⟨t, rfl⟩, rfl, rfl⟩ | ⟨a1, b1, rfl, o1⟩ <;>
  rcases h2 with ⟨a2, ⟨u, rfl⟩, rfl, rfl⟩ | ⟨a2, b2, ⟨u, rfl⟩, rfl, rfl⟩ | ⟨a2, b2, rfl, o2⟩
  · exact ⟨rfl, rfl, fun Q q => PyProof.Rows.ne_int (by simpa using q)⟩
  · exact absurd a1 a2
  · exact absurd a1 a2
  · exact absurd a2 a1
  · exact ⟨rfl, rfl, fun Q q => PyProof.Rows.ne_str (by simpa using q)⟩
  · exfalso; omega
  · exact absurd a2 a1
  · exfalso; omega
  · exact ⟨rfl, o1.det (prog := prog) (w := w) (A := A) (E := E) (s := s) o2⟩
end
theorem Res.in {n way place size word : Int} {f f' : Int → Int} {v : Value} {n' : Int} (h : Res n way place size word f v n' f') (hf : ∀ k, 0 ≤ f k ∧ f k < 256) : ∀ k, 0 ≤ f' k ∧ f' k < 256 := by
  rcases h with ⟨_, _, _, rfl⟩ | ⟨_, _, _, _, rfl⟩ | ⟨_, _, _, o⟩
  · exact hf
  · exact hf
  · exact o.in hf
theorem Res.few {n way place size word : Int} {f f' : Int → Int} {v : Value} {n' : Int} (h : Res n way place size word f v n' f') (h0 : 0 ≤ n) (h1 : n ≤ 12) (hs : SpanOk place size) : 0 ≤ n' ∧ n' ≤ 12 := by
  rcases h with ⟨_, _, rfl, _⟩ | ⟨_, _, _, rfl, _⟩ | ⟨_, b, rfl, _⟩
  · exact ⟨h0, h1⟩
  · exact ⟨h0, h1⟩
  · obtain ⟨p0, s0, s1, p1, _⟩ := hs
    have hw : 0 ≤ sizeW way size ∧ sizeW way size ≤ 70 := by unfold sizeW; split <;> (try split) <;> omega
    generalize sizeW way size = z at *
    unfold touchI at b ⊢
    split
    · omega
    · rename_i hz
      rw [if_neg hz] at b
      omega
theorem due_res (w : World) (aK aD : Addr) (oK oD : Obj) (f : Int → Int) (m : Nat) (n way place size word : Int) (tn t1 t2 t3 t4 : Tok) (hK : oK.IsDictOf (PySem.strKind PySem.Challenge.rw_pq0393_01.row.prog w) [(Str.ofString "words", .int n tn), (Str.ofString "cells", .ref aD)]) (hD : CellsD w oD f m) (hlo : (aD == sysModules) = false) (hlk : (aK == sysModules) = false)
    (hne : @Ne Nat aK aD) (hw0 : 0 ≤ way) (hw1 : way ≤ 6) (h0 : 0 ≤ place) (h1 : 0 ≤ size) (h2 : size ≤ 100) (hf : ∀ k, 0 ≤ f k ∧ f k < 256) (hn0 : 0 ≤ n) (hm : m ≤ 10000) (hz : 0 ≤ word) (hz1 : word < 256 ^ 32) :
    TSpec w 40 379 [.ref aK, .int way t1, .int place t2, .int size t3, .int word t4] [(aK, oK), (aD, oD)] (fun _ => True)
      (fun v T' => ∃ oK' oD' n' f' t, T' = [(aK, oK'), (aD, oD')] ∧ oK'.IsDictOf (PySem.strKind PySem.Challenge.rw_pq0393_01.row.prog w) [(Str.ofString "words", .int n' t), (Str.ofString "cells", .ref aD)] ∧ CellsD w oD' f' (m + 100) ∧ Res n way place size word f v n' f') := by
  have hD2 : CellsD w oD f (m + 100) := ⟨_, hD.choose_spec.1, Nat.le_trans hD.choose_spec.2.1 (by omega), hD.choose_spec.2.2⟩
  refine (due_spec w aK aD oK oD f m n way place size word tn t1 t2 t3 t4 hK hD hlo hlk hne hw0 hw1 h0 h1 h2 hf hn0 hm hz hz1).mono fun v T' h => ?_
  rcases h with ⟨a, b, rfl⟩ | ⟨a, b, c, rfl⟩ | ⟨a, b, oK', oD', f', t, rfl, hK', hD', o⟩
  · exact ⟨_, _, n, f, _, rfl, hK, hD2, .inl ⟨a, b, rfl, rfl⟩⟩
  · exact ⟨_, _, n, f, _, rfl, hK, hD2, .inr (.inl ⟨a, b, c, rfl, rfl⟩)⟩
  · exact ⟨_, _, _, f', _, rfl, hK', hD', .inr (.inr ⟨a, b, rfl, o⟩)⟩
theorem tried_res (w : World) (x dx aB : Addr) (b : Array UInt8) (f : Int → Int) (n way place size word : Int) (t1 t2 t3 ta tb tc td : Tok) (hx1 : @Ne Nat dx x) (hx2 : @Ne Nat aB x) (hx3 : @Ne Nat aB dx)
    (hR : MemR b n f) (hf : ∀ k, 0 ≤ f k ∧ f k < 256) (hn1 : n ≤ 131072) (hw0 : 0 ≤ way) (hw1 : way ≤ 6) (h0 : 0 ≤ place) (hs0 : 0 ≤ size) (hs1 : size ≤ 100) (hz : 0 ≤ word) (hz1 : word < 256 ^ 32) :
    TSpec w 60 372 [.ref x, .int way ta, .int place tb, .int size tc, .int word td] [(x, instObj 210 dx), (dx, memO w aB n t1 t2 t3), (aB, baObj b)] (fun _ => True)
      (fun v T' => ∃ b' n' f' t1 t2 t3, T' = [(x, instObj 210 dx), (dx, memO w aB n' t1 t2 t3), (aB, baObj b')] ∧ MemR b' n' f' ∧ Res n way place size word f v n' f') := by
  refine (tried_spec w x dx aB b f n way place size word t1 t2 t3 ta tb tc td hx1 hx2 hx3 hR hf hn1 hw0 hw1 h0 hs0 hs1 hz hz1).mono fun v T' h => ?_
  rcases h with ⟨a, c, rfl⟩ | ⟨a, c, d, rfl⟩ | ⟨a, c, b', f', t1', t2', t3', rfl, hM, o⟩
  · exact ⟨_, n, f, t1, t2, t3, rfl, hR, .inl ⟨a, c, rfl, rfl⟩⟩
  · exact ⟨_, n, f, t1, t2, t3, rfl, hR, .inr (.inl ⟨a, c, d, rfl, rfl⟩)⟩
  · exact ⟨_, _, f', _, _, _, rfl, hM, .inr (.inr ⟨a, c, rfl, o⟩)⟩
/-- kept out of the walk's sight -/
noncomputable def Hide (p : Prop) : Prop := p
noncomputable def NeAll (a : Addr) : Led → Prop
  | [] => True
  | q :: r => @Ne Nat a q.1 ∧ NeAll a r
noncomputable def NeAll2 : Led → Led → Prop
  | [], _ => True
  | p :: T, r => NeAll p.1 r ∧ NeAll2 T r
theorem neAll_of {a : Addr} : ∀ {r : Led}, (∀ q ∈ r, a ≠ q.1) → NeAll a r
  | [], _ => trivial
  | q :: _, h => ⟨h q (.head _), neAll_of fun q hq => h q (.tail _ hq)⟩
theorem neAll2_of {r : Led} : ∀ {T : Led}, (∀ p ∈ T, ∀ q ∈ r, p.1 ≠ q.1) → NeAll2 T r
  | [], _ => trivial
  | p :: _, h => ⟨neAll_of (h p (.head _)), neAll2_of fun p hp => h p (.tail _ hp)⟩
noncomputable def AllNe (a : Addr) : Led → Prop
  | [] => True
  | q :: r => @Ne Nat q.1 a ∧ AllNe a r
theorem allNe_of {a : Addr} : ∀ {r : Led}, (∀ q ∈ r, @Ne Nat q.1 a) → AllNe a r
  | [], _ => trivial
  | q :: _, h => ⟨h q (.head _), allNe_of fun q hq => h q (.tail _ hq)⟩
theorem m_three {m : Str → Option Value} {a b c : Str} {va vb vc : Option Value} (ha : m a = va) (hb : m b = vb) (hc : m c = vc) : ∀ y, m y = if y = a then va else if y = b then vb else if y = c then vc else m y := fun y => by
  by_cases h1 : y = a
  · rw [if_pos h1, h1, ha]
  · rw [if_neg h1]
    by_cases h2 : y = b
    · rw [if_pos h2, h2, hb]
    · rw [if_neg h2]
      by_cases h3 : y = c
      · rw [if_pos h3, h3, hc]
      · rw [if_neg h3]
theorem word_in {p : Int} (h : p ∈ [(2 : Int) ^ Int.toNat 255 + 77, 1, 255, 256, 2 ^ Int.toNat 256 - 1, 0]) : 0 ≤ p ∧ p < 256 ^ 32 := by
  simp only [List.mem_cons, List.not_mem_nil, or_false] at h
  rcases h with rfl | rfl | rfl | rfl | rfl | rfl <;> decide +kernel
theorem news_ne {g h : Heap} {L a b : Addr} {l : Led} {o o' : Obj} (N : News g L h l) (ha : (a, o) ∈ l) (hb : (b, o') ∈ l) (ne : o ≠ o') : @Ne Nat a b := fun e => by
  have h1 := (N _ ha).1
  have h2 := (N _ hb).1
  dsimp only at h1 h2
  rw [e, h2] at h1
  exact ne (Option.some.inj h1).symm
theorem eqb {a b : Array UInt8} (h : KBw.bInts a = KBw.bInts b) : Value.bool (a.toList == b.toList) = .bool true := by rw [bInts_inj h]; simp
theorem way_in (j : Nat) : 0 ≤ ([2, 0, 1, 3, 4, 5, 6, 5, 3] : List Int).getD j 0 ∧ ([2, 0, 1, 3, 4, 5, 6, 5, 3] : List Int).getD j 0 ≤ 6 := by
  by_cases h : j < 9
  · have : ∀ j, j < 9 → 0 ≤ ([2, 0, 1, 3, 4, 5, 6, 5, 3] : List Int).getD j 0 ∧ ([2, 0, 1, 3, 4, 5, 6, 5, 3] : List Int).getD j 0 ≤ 6 := by decide
    exact this j h
  · rw [List.getD_eq_getElem?_getD, List.getElem?_eq_none (by simpa using h)]; decide
theorem useSpan {w : World} {aW aC : Addr} {oW oC : Obj}
    {dp un : Nat} {gd : Option (List Code)} {env : Env} {outer : List Env} {A₀ : Around} {base h₀ : Heap} {L : Addr} {m : Str → Option Value} {news rest : Led} {s : Shared} {mean : ExcName → Option Value} {mg mb : Str → Option Value} {Q E : Value → Shared → Prop}
    (hW : WellO aC oW) (hC : CellsO oC) (hne : @Ne Nat aW aC) (tk : Take [(aW, oW), (aC, oC)] news rest)
    (B : Below A₀ base outer h₀) (F : Fr h₀ L s.heap m) (N : News h₀ L s.heap news) (X : (Mine.hd.heap_1 w.params).In h₀) (Tp : Top Mine.view (looseW Mine.view [Str.ofString "WORD", Str.ofString "MOST_WORDS"]) mean mg mb h₀)
    (hf : env.frame = some L) (hke : env.scope.kind = .function) (hd : dp + 30 < 990) (hu : un + 20 * 30 < 9800)
    (h : ∀ h' tk', Fr h₀ L h' m → ∀ x place size t1 t2 oW', SpanOk place size → WellO aC oW' → @Ne Nat aW x → @Ne Nat aC x → News h₀ L h' ((aW, oW') :: (aC, oC) :: (x, { cls := .type "tuple", data := .seq #[.int place t1, .int size t2] }) :: rest) → Q (.ref x) { s with heap := h', toks := tk' }) :
    wpAny (model PySem.Challenge.rw_pq0393_01.row.prog w) (AA dp un gd (env :: outer)) (call (.ref 367) [.ref aW]) Q E s :=
  useT (span_spec w aW aC oW oC hW hC hne) tk B F N X Tp hf hke hd hu (fun _ _ => trivial) (fun v T' h' tk' ok F' N' _ _ => by
    obtain ⟨x, place, size, t1, t2, oW', rfl, a, b, c, d, rfl⟩ := ok; exact h h' tk' F' x place size t1 t2 oW' a b c d N') (fun _ _ _ _ _ _ _ er _ => er.elim)
theorem words_42 : True := by
  k_with "mine and" => first | ((with_reducible show (Frag.In _ _) ∧ _); refine' and_in ?w81a ?w81b ?_; (case w81b => (try dsimp only); k_asm); (case w81a => assumption)) | ((with_reducible show (KeepsF _ _ ∧ _) ∧ _); refine' and_in2 ?w81a ?w81b ?w81c ?_; (case w81b => (try dsimp only); k_asm); (case w81a => assumption); (case w81c => first | exact KeepsF.type | exact KeepsF.builtin | (refine' KeepsF.of ?w81d; (case w81d => first | exact rfl | k_is)))) | ((with_reducible show (KeepsF _ _) ∧ _); refine' And.intro ?w81c ?_; (case w81c => first | exact KeepsF.type | exact KeepsF.builtin | (refine' KeepsF.of ?w81d; (case w81d => first | exact rfl | k_is))))
  k_with "call ref" => ( k_here; (with_reducible show wpAny _ _ (PySem.call (Value.ref 367) _ _) _ _ _); k_dflt ( refine' useSpan ?w82s1 ?w82s2 ?w82s3 (Take.cons ?w82ta (Take.cons ?w82tb Take.nil)) ?kB ?kF ?kN ?kX ?kT ?khf ?khk ?kd ?ku ?_; (case kF => k_asm); (case kN => k_asm); (case w82ta => walk_at "mine take1"); (case w82s1 => assumption); (case w82tb => walk_at "mine take1"); (case w82s2 => assumption); (case w82s3 => k_ne); walk_at "mine std"; k_whole); intro _ _ _ _ _ _ _ _ _ _ _ _ _ _; (try dsimp only); (try k_sweep); (try k_fold))
  k_with "call type:bytes" => ( k_here; (with_reducible show wpAny _ _ (PySem.call (Value.type "bytes") [Value.ref _]) _ _ _); refine' call_bytes_ba (News.get ?kN ?w83km) ?w83kz ?_; (case kN => k_asm); (case w83km => k_mem); (case w83kz => (rw [sizeLine_eq]; omega)); intro zqtB; (revert zqtB); intros; (try dsimp only))
  trivial
/-- what stands behind each turn -/
inductive MemJ (w : World) (aW aC : Addr) (oC : Obj) (x dx aB aK aD : Addr) (i : Nat) (Bel : Prop) (m₁ : PySem.Str → Option Value) (n₁ : Led) : Prop
  | mk (B : Bel) (e1 : m₁ (Str.ofString "well") = some (.ref aW)) (e2 : m₁ (Str.ofString "memory") = some (.ref x)) (e3 : m₁ (Str.ofString "desk") = some (.ref aK))
      (oW' oK oD : Obj) (b : Array UInt8) (n : Int) (f : Int → Int) (tn t1 t2 t3 : Tok) (hW : WellO aC oW') (hK : oK.IsDictOf (PySem.strKind PySem.Challenge.rw_pq0393_01.row.prog w) [(Str.ofString "words", .int n tn), (Str.ofString "cells", .ref aD)]) (hD : CellsD w oD f (100 * i))
      (hR : MemR b n f) (hf : ∀ k, 0 ≤ f k ∧ f k < 256) (hn : n ≤ 12) (e : n₁ = [(aW, oW'), (aC, oC), (x, instObj 210 dx), (dx, memO w aB n t1 t2 t3), (aB, baObj b), (aK, oK), (aD, oD)]) : MemJ w aW aC oC x dx aB aK aD i Bel m₁ n₁
theorem turn100 {i : Nat} {r : Int} (h1 : r < 8) (hi : i < (1 + r).toNat) : 100 * i ≤ 10000 := by omega
set_option maxHeartbeats 8000000 in
theorem memright_spec (w : World) (aW aC : Addr) (oW oC : Obj) (hW : WellO aC oW) (hC : CellsO oC) (hne : @Ne Nat aW aC) :
    TSpec w 80 386 [.ref aW] [(aW, oW), (aC, oC)] (fun _ => True) (fun v T' => v = .bool true ∧ ∃ oW', WellO aC oW' ∧ T' = [(aW, oW'), (aC, oC)]) := by
  unfold TSpec
  k_fill
  intro dp un gd outer base g mean mg mb s R B hst hsz hN X Tp XB TB hd hu hG hok
  have hb : Binds [(Str.ofString "well", .ref aW)] := .mk
  have HB : Hide (_ ∧ _) := And.intro XB TB
  clear XB TB
  walk_at "mine enterT"
  refine S_cons (S_AssignSwap (S_Tuple (S_Call0 (K := Mine.hd.heap_1 w.params) ?_)))
  walk_at "mine stepsS"
  refine' useMake (T := []) (fun x dx _ _ h => meminit_spec w x dx h) Take.nil ?hv ?kB ?kF ?kN ?kX ?kT ?hm ?hi ?hfn ?khf ?khk ?kd ?ku ?kG ?_
  case kF => k_asm
  case kN => k_asm
  walk_at "mine std"
  case hv => rintro x dx v T' ⟨h, _⟩; exact h
  case hm => first | k_is | exact rfl
  case hi => first | k_is | exact rfl
  case hfn => first | k_is | exact rfl
  case kG => exact fun _ _ _ _ => trivial
  rintro x dx v T' h1 tk1 ⟨-, aB, t1, t2, t3, n1, n2, rfl⟩ F1 N1 d1 d2
  have hdx : @Ne Nat dx x := news_ne N1 (.tail _ (.head _)) (.head _) (by intro e; cases e)
  have d3 := neAll2_of d1
  clear d1 d2
  simp only [NeAll2, NeAll, and_true] at d3
  obtain ⟨⟨f1, f2⟩, ⟨f3, f4⟩, f5, f6⟩ := d3
  try dsimp only [List.cons_append, List.nil_append] at N1
  try dsimp only
  try k_sweep
  try k_fold
  walk_at "mine stepsS"
  rename_i L h7 l3 aK h6 oK0 loK hd1 l2 aD h5 oD loD hsD fsD hiD fiD l4 h4 oK hdK D h3 l1 hh2 hh1 hh0 F0 N0
  have hK0 : oK.IsDictOf (PySem.strKind PySem.Challenge.rw_pq0393_01.row.prog w) [(Str.ofString "words", .int 0 _), (Str.ofString "cells", .ref aD)] := hdK
  have hD0 : CellsD w oD (fun _ => 0) 0 := ⟨[], hiD, Nat.le_refl _, fun k => rfl⟩
  clear hd1 hsD fsD hiD fiD hdK
  have nKD : @Ne Nat aK aD := by omega
  refine S_cons (S_For ?_)
  walk_at "mine stepsS"
  (with_reducible rename IsRange _ _ _ _ _ _ _ _ => hr)
  (with_reducible rename Fr _ _ _ _ => F1)
  (with_reducible rename News _ _ _ _ => N2)
  rename_i hA tkA FA r' tr oW1 q0 q1 hW1 NA hB tkB tr1 tr2 tr3 keep
  clear NA FA keep
  refine' S_rangeT (n := (1 + r').toNat) (fs := outer.filterMap (·.frame)) (news := [(aW, oW1), (aC, oC), (x, instObj 210 dx), (dx, memO w aB 0 t1 t2 t3), (aB, baObj #[]), (aK, oK), (aD, oD)])
    (fun i h₁ => MemJ w aW aC oC x dx aB aK aD i (Below (AA dp un gd outer) base outer h₁))
    rfl ?kE hr ?ks ?kn rfl rfl F1 (News.sub N2 ?kp) ?kj ?kt ?kd
  case kE => passes_own
  case ks => exact smallR (by omega) (by omega)
  case kn => exact sizeR (by omega)
  case kp => walk_at "mine mem"
  case kj => exact ⟨B, rfl, rfl, rfl, _, oK, oD, _, 0, fun _ => 0, _, _, _, _, hW1, hK0, hD0, MemR.zero, fun _ => ⟨Int.le_refl 0, (by decide : (0 : Int) < 256)⟩, by decide, rfl⟩
  case kd =>
    intro g1 m₁ n₁ h tk hT hJ F N
    obtain ⟨B1, e1, e2, e3, oW2, oK2, oD2, b, n, f, tn, u1, u2, u3, hW2, hK2, hD2, hR2, hf2, hn2, rfl⟩ := hJ
    replace F := Fr.to F fun y => by
      show _ = if y = Str.ofString "well" then some (Value.ref aW) else if y = Str.ofString "memory" then some (Value.ref x) else if y = Str.ofString "desk" then some (Value.ref aK) else m₁ y
      rw [← m_three e1 e2 e3 y]
    clear F1 N2 B X Tp hr hW hW1 hK0 hD0
    obtain ⟨XB, TB⟩ := HB
    have X1 := XB.keeps B1.stays
    have T1 := TB.keeps B1.stays
    have hn3 := hR2.1
    have hn4 := hR2.2.1
    clear XB TB
    walk_at "mine next"
    (with_reducible rename KBw.bInts _ = _ => hWb)
    walk_at "mine endT"
    exact ⟨[(aW, _), (aC, _)], ⟨eqb (hR2.all.trans hWb.symm), _, hW2, rfl⟩, by walk_at "mine mem"⟩
  case kt =>
    intro i t g1 m₁ n₁ h tk I o hi hT hJ off F N
    obtain ⟨B1, e1, e2, e3, oW2, oK2, oD2, b, n, f, tn, u1, u2, u3, hW2, hK2, hD2, hR2, hf2, hn2, rfl⟩ := hJ
    replace F := Fr.to F fun y => by
      show _ = if y = Str.ofString "turn" then some (Value.int i t) else if y = Str.ofString "well" then some (Value.ref aW) else if y = Str.ofString "memory" then some (Value.ref x) else if y = Str.ofString "desk" then some (Value.ref aK) else m₁ y
      rw [← m_three e1 e2 e3 y]
    clear F1 N2 B X Tp hr hW hW1 hK0 hD0
    obtain ⟨XB, TB⟩ := HB
    have X1 := XB.keeps B1.stays
    have T1 := TB.keeps B1.stays
    have HB : Hide (_ ∧ _) := And.intro XB TB
    clear XB TB
    have off := allNe_of off
    simp only [AllNe, and_true] at off
    replace N := News.sub N (l' := (aW, oW2) :: (aC, oC) :: [(I, o), (x, instObj 210 dx), (dx, memO w aB n u1 u2 u3), (aB, baObj b), (aK, oK2), (aD, oD2)]) (by walk_at "mine mem")
    have hrW : ∀ p ∈ [(I, o), (x, instObj 210 dx), (dx, memO w aB n u1 u2 u3), (aB, baObj b), (aK, oK2), (aD, oD2)], p.1 ≠ aW := by k_all
    have hrC : ∀ p ∈ [(I, o), (x, instObj 210 dx), (dx, memO w aB n u1 u2 u3), (aB, baObj b), (aK, oK2), (aD, oD2)], p.1 ≠ aC := by k_all
    generalize hrest : [(I, o), (x, instObj 210 dx), (dx, memO w aB n u1 u2 u3), (aB, baObj b), (aK, oK2), (aD, oD2)] = rest at N hrW hrC
    (try dsimp only)
    with_reducible refine foldM F ?_
    clear F
    intro m0 F
    walk_at "mine foldS"
    with_reducible refine S_cons (wpS_any ?_)
    walk_at "mine stepsS"
    rename_i D hD3 l2 hh1 tkA r1 tr1 oW3 p0 p1 hW3 tw hh F2 N2
    have hw := way_in r1.toNat
    generalize List.getD ([2, 0, 1, 3, 4, 5, 6, 5, 3] : List Int) r1.toNat 0 = way at hw F2 ⊢
    obtain ⟨hw0, hw1⟩ := hw
    have N3 := News.sub N2 (l' := (aW, oW3) :: (aC, oC) :: rest) (by walk_at "mine mem")
    clear N2 hW2
    (try dsimp only)
    with_reducible refine foldM F2 ?_
    clear F2
    intro mA F2
    try dsimp only
    with_reducible refine S_cons (wpS_any ?_)
    walk_at "mine stepsS"
    rename_i hq tkq xq place size tp ts oW4 hs hW4 nx1 nx2 hq2 hq1 hq0 F4 N4
    have N5 := News.sub N4 (l' := (aW, oW4) :: (aC, oC) :: rest) (by walk_at "mine mem")
    clear N4
    (try dsimp only)
    with_reducible refine foldM F4 ?_
    clear F4
    intro mB F4
    (try clear hW3)
    try dsimp only
    refine S_cons (wpS_any (wpAny_mono (Q := fun f s' => Ended (f = Flow.next ∧ ∃ (word : Int) (tz : Tok) (oW5 : Obj) (h' : Heap) (tk' : Nat), s' = { s with heap := h', toks := tk' } ∧ 0 ≤ word ∧ word < 256 ^ 32 ∧ WellO aC oW5 ∧
      Fr g1 L h' (fun y => if y = Str.ofString "word" then some (.int word tz) else mB y) ∧
      News g1 L h' ((aW, oW5) :: (aC, oC) :: rest))) ?hw (fun f s' hf => ?_) (fun _ _ z => z)))
    case hw =>
      walk_at "mine stepsS"
      all_goals (try k_unfold)
      all_goals (try dsimp only)
      · (with_reducible rename _ ∈ _ => hmem)
        (with_reducible rename Fr _ _ _ _ => Fz)
        (with_reducible rename News _ _ _ _ => Nz)
        (with_reducible rename WellO _ _ => Wz)
        have hwd := word_in hmem
        exact ⟨trivial, _, _, _, _, _, rfl, hwd.1, hwd.2, Wz, Fz, News.sub Nz (by walk_at "mine mem")⟩
      · (with_reducible rename Fr _ _ _ _ => Fz)
        (with_reducible rename News _ _ _ _ => Nz)
        (with_reducible rename WellO _ _ => Wz)
        exact ⟨trivial, 0, _, _, _, _, rfl, Int.le_refl 0, by decide +kernel, Wz, Fz, News.sub Nz (by walk_at "mine mem")⟩
    obtain ⟨rfl, word, tz, oW5, h5, tk5, rfl, hz0, hz1, hW5, F5, N6⟩ := hf
    clear F4 N5
    (try dsimp only)
    with_reducible refine foldM F5 ?_
    clear F5
    intro mC F5
    clear hrW hrC
    subst hrest
    (try clear hW4)
    try dsimp only
    refine S_cons (S_AssignName (S_Call1 (K := Mine.hd.heap_1 w.params) ?_))
    walk_at "mine stepsS"
    obtain ⟨XB, TB⟩ := HB
    refine' useTT (due_res w aK aD oK2 oD2 f (100 * i) n way place size word tn _ _ _ _ hK2 hD2 loD loK nKD hw0 hw1 hs.1 hs.2.1 ?s1 hf2 hR2.2.1 ?s3 hz0 hz1) (Take.cons ?ta (Take.cons ?tb Take.nil)) B1 ?kF ?kN X1 T1 XB TB rfl rfl ?kd ?ku ?kG ?_
    case kF => k_asm
    case kN => k_asm
    case s1 => have := hs.2.2.1; omega
    case s3 => exact turn100 q1 hi
    case ta => walk_at "mine take1"
    case tb => walk_at "mine take1"
    case kd => walk_at "mine num"
    case ku => walk_at "mine num"
    case kG => exact fun _ _ => trivial
    rintro v T' h6 tk6 g2 turn2 ⟨oK3, oD3, n3, f3, tn3, rfl, hK3, hD3, res3⟩ B2 F6 N7 d7 X2 T2
    have HB : Hide (_ ∧ _) := And.intro XB TB
    clear XB TB d7 B1 X1 T1 hK2 hD2
    try dsimp only [List.cons_append, List.nil_append] at N7
    try dsimp only
    try k_sweep
    try k_fold
    walk_at "mine stepsS"
    (with_reducible rename Fr _ _ _ _ => F8)
    (with_reducible rename News _ _ _ _ => N8)
    refine S_cons (S_If (S_or (S_cmp (S_Call1 (K := Mine.hd.heap_1 w.params) ?_))))
    walk_at "mine stepsS"
    obtain ⟨XB, TB⟩ := HB
    refine' useTT (tried_res w x dx aB b f n way place size word _ _ _ _ _ _ _ hdx n1 n2 hR2 hf2 (by omega) hw0 hw1 hs.1 hs.2.1 ?s1 hz0 hz1) (Take.cons ?ta (Take.cons ?tb (Take.cons ?tc Take.nil))) B2 ?kF ?kN X2 T2 XB TB rfl rfl ?kd ?ku ?kG ?_
    case kF => k_asm
    case kN => k_asm
    case s1 => have := hs.2.2.1; omega
    case ta => walk_at "mine take1"
    case tb => walk_at "mine take1"
    case tc => walk_at "mine take1"
    case kd => walk_at "mine num"
    case ku => walk_at "mine num"
    case kG => exact fun _ _ => trivial
    rintro v' T' h8 tk8 g3 turn3 ⟨b4, n4, f4, v1, v2, v3, rfl, hR4, res4⟩ B3 F9 N9 d9 X3 T3
    have HB : Hide (_ ∧ _) := And.intro XB TB
    clear XB TB d9 B2 X2 T2
    try dsimp only [List.cons_append, List.nil_append] at N9
    try dsimp only
    try k_sweep
    try k_fold
    walk_at "mine stepsS"
    obtain ⟨en, ef, -⟩ := Res.det (prog := PySem.Challenge.rw_pq0393_01.row.prog) (w := w) (A := AA dp un gd outer) (E := fun _ _ => True) (s := s) res4 res3
    refine (Res.det res4 res3).2.2 _ ?_
    subst en
    subst ef
    have hf4 := res4.in hf2
    have hn4 := res4.few hR2.2.1 hn2 hs
    clear res4 res3 F8 N8
    walk_at "mine stepsS"
    refine S_or (wpS_any ?_)
    walk_at "mine stepsS"
    all_goals (try (exfalso; omega))
    refine S_or_nil ?_
    show (if false = true then _ else _)
    rw [if_neg Bool.false_ne_true]
    walk_at "mine nils"
    try dsimp only
    exact ⟨_, _, g3, _, [(aW, oW5), (aC, oC), (x, instObj 210 dx), (dx, memO w aB n4 v1 v2 v3), (aB, baObj b4), (aK, oK3), (aD, oD3)], rfl, (hT.trans turn2).trans turn3, F9, News.sub N9 (by walk_at "mine mem"), by walk_at "mine ne all", B3, rfl, rfl, rfl, oW5, oK3, oD3, b4, n4, f4, tn3, v1, v2, v3, hW5, hK3, hD3.cast rfl (by omega), hR4, hf4, hn4.2, rfl⟩
theorem words_43 : True := by
  k_with "call ref" => ( k_here; (with_reducible show wpAny _ _ (PySem.call (Value.ref 123) _ _) _ _ _); k_dflt ( refine' useT (jump_spec _ _) Take.nil ?kB ?kF ?kN ?kX ?kT ?khf ?khk ?kd ?ku ?kG ?_ ?kE; walk_at "mine pure"; k_whole); intro zqv' zqT' zqh' zqtk' zqok zqF' zqN' zqd1 zqd2; (obtain ⟨zqxJ', zqoJ', zqe1, zqe2⟩ := zqok); (subst zqe1); (subst zqe2); (clear zqd2); (have zqd3 := neAll2_of zqd1); (clear zqd1); (simp only [NeAll2, NeAll, and_true] at zqd3); (try dsimp only [List.cons_append, List.nil_append] at zqN'); (revert zqh' zqtk' zqF' zqN' zqxJ' zqoJ' zqd3); intros; (try dsimp only); (try k_sweep); (try k_fold))
  k_with "mine stop" => with_reducible show wpAny _ _ (PySem.eval (Expr.Name (Str.ofString "self") _) _) (fun ov s₂ => wpAny _ _ (setAttr ov _ _) _ _ s₂) _ _
  trivial
/-! «self.name = v» where the object does not hold the name yet: one rule, so that a constructor of many stores stays small -/
section
variable {prog : Program} {w : World} {A : Around} {E : Value → Shared → Prop} {s : Shared} {K : Frag} {h₀ : Heap} {L a x dx C : Addr} {m : PySem.Str → Option Value} {rest : Led} {es : List DictEntry} {es' : Tok → List DictEntry} {n n' : Nat} {self name src : PySem.Str} {v : Value} {cn : PySem.Str} {cs : Scope} {ccd : Value} {pos pos' : Pos}
/-- what the store asks of the class -/
noncomputable def StoreOk (K : Frag) (C : Addr) : Prop := findIn K (.ref C) "__setattr__" = some (some (.builtin "object.__setattr__")) ∧ plainOver K C = true ∧ hasDictIn K C = true
theorem attr_new {Q : Unit → Shared → Prop} (F : Fr h₀ L s.heap m) (X₀ : K.In h₀) (N : News h₀ L s.heap ((x, instObj C dx) :: (dx, dictOf es n) :: rest)) (hC : StoreOk K C) (hne : @Ne Nat dx x) (hr : ∀ p ∈ rest, p.1 ≠ dx) (hs : m self = some (.ref x))
    (ht : takerIn K C name = some none) (hl : (getL name es).isSome = true) (e : ∀ k, (putL name (PyData.keyHash w.params name) (.str name k) v es, putN name es n) = (es' k, n')) (hz : ∀ k, (es' k).length ≤ 1000)
    (h : ∀ k h' tk', Fr h₀ L h' m → News h₀ L h' ((x, instObj C dx) :: (dx, dictOf (es' k) n') :: rest) → Q () ⟨h', s.gens, s.drawn, tk', s.os⟩)
    (hk : cs.kind = .function) (hx : (envX cn cs L a ccd []).kindOf self = some .local) (hd : (self == ("__debug__" : PySem.Str)) = false) :
    wpAny (model prog w) A (eval (.Name self pos) (envOf cn cs L a ccd)) (fun ov s₂ => wpAny (model prog w) A (setAttr ov name v) Q E s₂) E s :=
  nameX_L (cn := cn) (cs := cs) (cl := []) F hs (set_dict F X₀ N (.of_news N (.head _) (.tail _ (.head _))) rfl hC.1 hC.2.1 ht hC.2.2 hl (e _) (.tail hne.symm (.head hr)) (hz _) fun h' F' N' => h _ h' _ F' N') hk hx hd
theorem attr_name {Q : Flow → Shared → Prop} (F : Fr h₀ L s.heap m) (X₀ : K.In h₀) (N : News h₀ L s.heap ((x, instObj C dx) :: (dx, dictOf es n) :: rest)) (hC : StoreOk K C) (hne : @Ne Nat dx x) (hr : ∀ p ∈ rest, p.1 ≠ dx) (hs : m self = some (.ref x)) (hv : m src = some v)
    (ht : takerIn K C name = some none) (hl : (getL name es).isSome = true) (e : ∀ k, (putL name (PyData.keyHash w.params name) (.str name k) v es, putN name es n) = (es' k, n')) (hz : ∀ k, (es' k).length ≤ 1000)
    (h : ∀ k h' tk', Fr h₀ L h' m → News h₀ L h' ((x, instObj C dx) :: (dx, dictOf (es' k) n') :: rest) → Q .next ⟨h', s.gens, s.drawn, tk', s.os⟩)
    (hk : cs.kind = .function) (hx : (envX cn cs L a ccd []).kindOf self = some .local) (hd : (self == ("__debug__" : PySem.Str)) = false)
    (hx2 : (envX cn cs L a ccd []).kindOf src = some .local) (hd2 : (src == ("__debug__" : PySem.Str)) = false) {pos1 pos2 pos3 pos4 : Pos}
    (hsw : swapsWith (.Name src pos1) (some (.Attribute (.Name self pos2) name pos3)) pos4.line (envOf cn cs L a ccd) = pure false) :
    wpAny (model prog w) A (exec (.Assign [.Attribute (.Name self pos2) name pos3] (.Name src pos1) pos4) (envOf cn cs L a ccd)) Q E s :=
  plainObj_wpAny_Assign_Attribute (nameX_L (cn := cn) (cs := cs) (cl := []) F hv (attr_new (Q := fun _ => Q .next) F X₀ N hC hne hr hs ht hl e hz h hk hx hd) hk hx2 hd2) hsw
end
/-- a message's and a frame's entries; their tokens by a function -/
noncomputable def msgE (w : World) (gas : Int) (tk : Nat → Tok) : List DictEntry := [{ hash := PyData.keyHash w.params "kind", key := .str "kind" (tk 0), val := .str "call" (tk 20) }, { hash := PyData.keyHash w.params "caller", key := .str "caller" (tk 1), val := .int 1 (tk 21) }, { hash := PyData.keyHash w.params "target", key := .str "target" (tk 2), val := .int 2 (tk 22) }, { hash := PyData.keyHash w.params "code_address", key := .str "code_address" (tk 3), val := .int 2 (tk 23) }, { hash := PyData.keyHash w.params "value", key := .str "value" (tk 4), val := .int 0 (tk 24) }, { hash := PyData.keyHash w.params "told_value", key := .str "told_value" (tk 5), val := .int 0 (tk 25) }, { hash := PyData.keyHash w.params "data", key := .str "data" (tk 6), val := .bytes #[] (tk 26) }, { hash := PyData.keyHash w.params "gas", key := .str "gas" (tk 7), val := .int gas (tk 27) }, { hash := PyData.keyHash w.params "is_static", key := .str "is_static" (tk 8), val := .bool false }, { hash := PyData.keyHash w.params "depth", key := .str "depth" (tk 9), val := .int 0 (tk 28) }, { hash := PyData.keyHash w.params "salt", key := .str "salt" (tk 10), val := .int 0 (tk 29) }]
noncomputable def msgO (w : World) (gas : Int) (tk : Nat → Tok) : Obj := dictOf (msgE w gas tk) 11
noncomputable def upT (tk : Nat → Tok) (j : Nat) (k : Tok) : Nat → Tok := fun i => if i = j then k else tk i
noncomputable def frmM (x aMsg : Addr) (tc : Tok) : PySem.Str → Option Value := fun y => List.lookup y [(Str.ofString "self", Value.ref x), (Str.ofString "message", Value.ref aMsg), (Str.ofString "code", Value.bytes #[91] tc)].reverse
set_option maxHeartbeats 8000000 in
theorem frameinit_spec (w : World) (x dx aMsg dm : Addr) (gas : Int) (k : Nat → Tok) (tc : Tok) (h1 : @Ne Nat dx x) (h2 : @Ne Nat aMsg x) (h3 : @Ne Nat aMsg dx) (h4 : @Ne Nat dm x) (h5 : @Ne Nat dm dx) (h6 : @Ne Nat dm aMsg) :
    SSpec w 30 249 [.ref x, .ref aMsg, .bytes #[91] tc] [(x, instObj 287 dx), (dx, emptyDict), (aMsg, instObj 231 dm), (dm, msgO w gas k)] (fun _ => True)
      (fun v T' => v = .none ∧ ∃ (aSt aMem dMem aB aJ : Addr) (tk : Nat → Tok) (tg t1 t2 t3 : Tok), @Ne Nat aMem x ∧ @Ne Nat aMem dx ∧ @Ne Nat dMem x ∧ @Ne Nat dMem dx ∧ @Ne Nat dMem aMem ∧ @Ne Nat aB x ∧ @Ne Nat aB dx ∧ @Ne Nat aB aMem ∧ @Ne Nat aB dMem ∧
        T' = [(x, instObj 287 dx), (dx, frmO w aMsg aSt aMem gas aJ tk tg), (aMem, instObj 210 dMem), (dMem, memO w aB 0 t1 t2 t3), (aB, baObj #[])])
      (fun _ _ _ _ _ => False) := by
  unfold SSpec
  k_fill
  intro dp un gd outer base g mean mg mb s R B hst hsz hN X Tp hd hu hG hok her
  have hb : Binds [(Str.ofString "self", .ref x), (Str.ofString "message", .ref aMsg), (Str.ofString "code", .bytes #[91] tc)] := .mk
  walk_at "mine enterS"
  rename_i L hL FL NL lL
  have hC : StoreOk (Mine.hd.heap_1 w.params) 287 := ⟨by k_is, by k_is, by k_is⟩
  replace FL : Fr g L hL (frmM x aMsg tc) := FL
  replace NL : News g L hL ((x, instObj 287 dx) :: (dx, dictOf ((frmE w aMsg 0 0 gas 0 (fun _ => tc) tc).take 0) 0) :: (aMsg, instObj 231 dm) :: (dm, msgO w gas k) :: []) := NL
  have hr : ∀ p ∈ (aMsg, instObj 231 dm) :: (dm, msgO w gas k) :: [], p.1 ≠ dx := List.forall_mem_cons.mpr ⟨h3, List.forall_mem_cons.mpr ⟨h5, List.forall_mem_nil _⟩⟩
  refine S_cons (wpS_any (attr_name (es' := fun k0 => (frmE w aMsg 0 0 gas 0 (upT (fun _ => tc) 0 k0) tc).take 1) FL X NL hC h1 hr rfl rfl (by k_is) rfl (fun _ => rfl) (fun _ => Nat.le_of_ble_eq_true rfl) (fun k0 hq0 tq0 F0 N0 => ?_) rfl rfl rfl rfl rfl rfl))
  clear FL NL
  try dsimp only
  refine S_cons (wpS_any (attr_name (es' := fun k1 => (frmE w aMsg 0 0 gas 0 (upT (upT (fun _ => tc) 0 k0) 1 k1) tc).take 2) F0 X N0 hC h1 hr rfl rfl (by k_is) rfl (fun _ => rfl) (fun _ => Nat.le_of_ble_eq_true rfl) (fun k1 hq1 tq1 F1 N1 => ?_) rfl rfl rfl rfl rfl rfl))
  clear F0 N0
  try dsimp only
  refine S_cons (wpS_any (plainObj_wpAny_Assign_Attribute ?_ rfl))
  walk_at "mine stepsS"
  (with_reducible rename Fr _ _ _ _ => Fa2)
  (with_reducible rename News _ _ _ _ => Na2)
  refine attr_new (es' := fun k2 => (frmE w aMsg _ 0 gas 0 (upT (upT (upT (fun _ => tc) 0 k0) 1 k1) 2 k2) tc).take 3) Fa2 X (News.sub Na2 (l' := (x, instObj 287 dx) :: (dx, dictOf ((frmE w aMsg 0 0 gas 0 (upT (upT (fun _ => tc) 0 k0) 1 k1) tc).take 2) 2) :: (aMsg, instObj 231 dm) :: (dm, msgO w gas k) :: []) (by walk_at "mine mem")) hC h1 hr rfl (by k_is) rfl (fun _ => rfl) (fun _ => Nat.le_of_ble_eq_true rfl) (fun k2 hq2 tq2 F2 N2 => ?_) rfl rfl rfl
  (try clear F1)
  (try clear N1)
  try dsimp only
  refine S_cons (S_AssignAttr (S_Call0 (K := Mine.hd.heap_1 w.params) ?_))
  walk_at "mine stepsS"
  refine' useMake (T := []) (fun x dx _ _ h => meminit_spec w x dx h) Take.nil ?hv ?kB ?kF ?kN ?kX ?kT ?hm ?hi ?hfn ?khf ?khk ?kd ?ku ?kG ?_
  case kF => k_asm
  case kN => k_asm
  walk_at "mine std"
  case hv => rintro x dx v T' ⟨h, _⟩; exact h
  case hm => first | k_is | exact rfl
  case hi => first | k_is | exact rfl
  case hfn => first | k_is | exact rfl
  case kG => exact fun _ _ _ _ => trivial
  rintro aMem dMem v T' hz1 tk1 ⟨-, aB, t1, t2, t3, n1, n2, rfl⟩ Fa Na d1 d2
  have hdm : @Ne Nat dMem aMem := news_ne Na (.tail _ (.head _)) (.head _) (by intro e; cases e)
  have d3 := neAll2_of d1
  clear d1 d2
  simp only [NeAll2, NeAll, and_true] at d3
  obtain ⟨⟨m1, m2, -, -⟩, ⟨m3, m4, -, -⟩, m6, m7, -, -⟩ := d3
  have hr3 : ∀ p ∈ (aMem, instObj 210 dMem) :: (dMem, memO w aB 0 t1 t2 t3) :: (aB, baObj #[]) :: (aMsg, instObj 231 dm) :: (dm, msgO w gas k) :: [], p.1 ≠ dx := List.forall_mem_cons.mpr ⟨m2, List.forall_mem_cons.mpr ⟨m4, List.forall_mem_cons.mpr ⟨m7, hr⟩⟩⟩
  refine attr_new (es' := fun k3 => (frmE w aMsg _ aMem gas 0 (upT (upT (upT (upT (fun _ => tc) 0 k0) 1 k1) 2 k2) 3 k3) tc).take 4) Fa X (News.sub Na (l' := (x, instObj 287 dx) :: (dx, dictOf ((frmE w aMsg _ 0 gas 0 (upT (upT (upT (fun _ => tc) 0 k0) 1 k1) 2 k2) tc).take 3) 3) :: (aMem, instObj 210 dMem) :: (dMem, memO w aB 0 t1 t2 t3) :: (aB, baObj #[]) :: (aMsg, instObj 231 dm) :: (dm, msgO w gas k) :: []) (by walk_at "mine mem")) hC h1 hr3 rfl (by k_is) rfl (fun _ => rfl) (fun _ => Nat.le_of_ble_eq_true rfl) (fun k3 hq3 tq3 F3 N3 => ?_) rfl rfl rfl
  (try clear F2)
  (try clear N2)
  try dsimp only
  refine S_cons (wpS_any (plainObj_wpAny_Assign_Attribute ?_ rfl))
  walk_at "mine stepsS"
  refine attr_new (es' := fun k4 => (frmE w aMsg _ aMem gas 0 (upT (upT (upT (upT (upT (upT (fun _ => tc) 0 k0) 1 k1) 2 k2) 3 k3) 21 _) 4 k4) tc).take 5) F3 X (News.sub N3 (l' := (x, instObj 287 dx) :: (dx, dictOf ((frmE w aMsg _ aMem gas 0 (upT (upT (upT (upT (fun _ => tc) 0 k0) 1 k1) 2 k2) 3 k3) tc).take 4) 4) :: (aMem, instObj 210 dMem) :: (dMem, memO w aB 0 t1 t2 t3) :: (aB, baObj #[]) :: (aMsg, instObj 231 dm) :: (dm, msgO w gas k) :: []) (by walk_at "mine mem")) hC h1 hr3 rfl (by k_is) rfl (fun _ => rfl) (fun _ => Nat.le_of_ble_eq_true rfl) (fun k4 hq4 tq4 F4 N4 => ?_) rfl rfl rfl
  (try clear F3)
  (try clear N3)
  try dsimp only
  refine S_cons (wpS_any (plainObj_wpAny_Assign_Attribute ?_ rfl))
  walk_at "mine stepsS"
  refine attr_new (es' := fun k5 => (frmE w aMsg _ aMem gas 0 (upT (upT (upT (upT (upT (upT (upT (fun _ => tc) 0 k0) 1 k1) 2 k2) 3 k3) 21 _) 4 k4) 5 k5) (k 27)).take 6) F4 X (News.sub N4 (l' := (x, instObj 287 dx) :: (dx, dictOf ((frmE w aMsg _ aMem gas 0 (upT (upT (upT (upT (upT (upT (fun _ => tc) 0 k0) 1 k1) 2 k2) 3 k3) 21 _) 4 k4) tc).take 5) 5) :: (aMem, instObj 210 dMem) :: (dMem, memO w aB 0 t1 t2 t3) :: (aB, baObj #[]) :: (aMsg, instObj 231 dm) :: (dm, msgO w gas k) :: []) (by walk_at "mine mem")) hC h1 hr3 rfl (by k_is) rfl (fun _ => rfl) (fun _ => Nat.le_of_ble_eq_true rfl) (fun k5 hq5 tq5 F5 N5 => ?_) rfl rfl rfl
  (try clear F4)
  (try clear N4)
  try dsimp only
  refine S_cons (wpS_any (plainObj_wpAny_Assign_Attribute ?_ rfl))
  walk_at "mine stepsS"
  have hr6 : ∀ p ∈ (aMem, instObj 210 dMem) :: (dMem, memO w aB 0 t1 t2 t3) :: (aB, baObj #[]) :: [], p.1 ≠ dx := List.forall_mem_cons.mpr ⟨m2, List.forall_mem_cons.mpr ⟨m4, List.forall_mem_cons.mpr ⟨m7, List.forall_mem_nil _⟩⟩⟩
  refine attr_new (es' := fun k6 => (frmE w aMsg _ aMem gas 0 (upT (upT (upT (upT (upT (upT (upT (upT (upT (fun _ => tc) 0 k0) 1 k1) 2 k2) 3 k3) 21 _) 4 k4) 5 k5) 22 _) 6 k6) (k 27)).take 7) F5 X (News.sub N5 (l' := (x, instObj 287 dx) :: (dx, dictOf ((frmE w aMsg _ aMem gas 0 (upT (upT (upT (upT (upT (upT (upT (fun _ => tc) 0 k0) 1 k1) 2 k2) 3 k3) 21 _) 4 k4) 5 k5) (k 27)).take 6) 6) :: (aMem, instObj 210 dMem) :: (dMem, memO w aB 0 t1 t2 t3) :: (aB, baObj #[]) :: []) (by walk_at "mine mem")) hC h1 hr6 rfl (by k_is) rfl (fun _ => rfl) (fun _ => Nat.le_of_ble_eq_true rfl) (fun k6 hq6 tq6 F6 N6 => ?_) rfl rfl rfl
  (try clear F5)
  (try clear N5)
  try dsimp only
  refine S_cons (wpS_any (plainObj_wpAny_Assign_Attribute ?_ rfl))
  walk_at "mine stepsS"
  refine attr_new (es' := fun k7 => (frmE w aMsg _ aMem gas 0 (upT (upT (upT (upT (upT (upT (upT (upT (upT (upT (upT (fun _ => tc) 0 k0) 1 k1) 2 k2) 3 k3) 21 _) 4 k4) 5 k5) 22 _) 6 k6) 23 _) 7 k7) (k 27)).take 8) F6 X (News.sub N6 (l' := (x, instObj 287 dx) :: (dx, dictOf ((frmE w aMsg _ aMem gas 0 (upT (upT (upT (upT (upT (upT (upT (upT (upT (fun _ => tc) 0 k0) 1 k1) 2 k2) 3 k3) 21 _) 4 k4) 5 k5) 22 _) 6 k6) (k 27)).take 7) 7) :: (aMem, instObj 210 dMem) :: (dMem, memO w aB 0 t1 t2 t3) :: (aB, baObj #[]) :: []) (by walk_at "mine mem")) hC h1 hr6 rfl (by k_is) rfl (fun _ => rfl) (fun _ => Nat.le_of_ble_eq_true rfl) (fun k7 hq7 tq7 F7 N7 => ?_) rfl rfl rfl
  (try clear F6)
  (try clear N6)
  try dsimp only
  refine S_cons (wpS_any (plainObj_wpAny_Assign_Attribute ?_ rfl))
  walk_at "mine stepsS"
  (with_reducible rename Fr _ _ _ _ => Fa8)
  (with_reducible rename News _ _ _ _ => Na8)
  refine attr_new (es' := fun k8 => (frmE w aMsg _ aMem gas _ (upT (upT (upT (upT (upT (upT (upT (upT (upT (upT (upT (upT (fun _ => tc) 0 k0) 1 k1) 2 k2) 3 k3) 21 _) 4 k4) 5 k5) 22 _) 6 k6) 23 _) 7 k7) 8 k8) (k 27)).take 9) Fa8 X (News.sub Na8 (l' := (x, instObj 287 dx) :: (dx, dictOf ((frmE w aMsg _ aMem gas 0 (upT (upT (upT (upT (upT (upT (upT (upT (upT (upT (upT (fun _ => tc) 0 k0) 1 k1) 2 k2) 3 k3) 21 _) 4 k4) 5 k5) 22 _) 6 k6) 23 _) 7 k7) (k 27)).take 8) 8) :: (aMem, instObj 210 dMem) :: (dMem, memO w aB 0 t1 t2 t3) :: (aB, baObj #[]) :: []) (by walk_at "mine mem")) hC h1 hr6 rfl (by k_is) rfl (fun _ => rfl) (fun _ => Nat.le_of_ble_eq_true rfl) (fun k8 hq8 tq8 F8 N8 => ?_) rfl rfl rfl
  (try clear F7)
  (try clear N7)
  try dsimp only
  refine S_cons (wpS_any (plainObj_wpAny_Assign_Attribute ?_ rfl))
  walk_at "mine stepsS"
  refine attr_new (es' := fun k9 => (frmE w aMsg _ aMem gas _ (upT (upT (upT (upT (upT (upT (upT (upT (upT (upT (upT (upT (upT (fun _ => tc) 0 k0) 1 k1) 2 k2) 3 k3) 21 _) 4 k4) 5 k5) 22 _) 6 k6) 23 _) 7 k7) 8 k8) 9 k9) (k 27)).take 10) F8 X (News.sub N8 (l' := (x, instObj 287 dx) :: (dx, dictOf ((frmE w aMsg _ aMem gas _ (upT (upT (upT (upT (upT (upT (upT (upT (upT (upT (upT (upT (fun _ => tc) 0 k0) 1 k1) 2 k2) 3 k3) 21 _) 4 k4) 5 k5) 22 _) 6 k6) 23 _) 7 k7) 8 k8) (k 27)).take 9) 9) :: (aMem, instObj 210 dMem) :: (dMem, memO w aB 0 t1 t2 t3) :: (aB, baObj #[]) :: []) (by walk_at "mine mem")) hC h1 hr6 rfl (by k_is) rfl (fun _ => rfl) (fun _ => Nat.le_of_ble_eq_true rfl) (fun k9 hq9 tq9 F9 N9 => ?_) rfl rfl rfl
  (try clear F8)
  (try clear N8)
  try dsimp only
  refine S_cons (wpS_any (plainObj_wpAny_Assign_Attribute ?_ rfl))
  walk_at "mine stepsS"
  refine attr_new (es' := fun k10 => (frmE w aMsg _ aMem gas _ (upT (upT (upT (upT (upT (upT (upT (upT (upT (upT (upT (upT (upT (upT (upT (fun _ => tc) 0 k0) 1 k1) 2 k2) 3 k3) 21 _) 4 k4) 5 k5) 22 _) 6 k6) 23 _) 7 k7) 8 k8) 9 k9) 24 _) 10 k10) (k 27)).take 11) F9 X (News.sub N9 (l' := (x, instObj 287 dx) :: (dx, dictOf ((frmE w aMsg _ aMem gas _ (upT (upT (upT (upT (upT (upT (upT (upT (upT (upT (upT (upT (upT (fun _ => tc) 0 k0) 1 k1) 2 k2) 3 k3) 21 _) 4 k4) 5 k5) 22 _) 6 k6) 23 _) 7 k7) 8 k8) 9 k9) (k 27)).take 10) 10) :: (aMem, instObj 210 dMem) :: (dMem, memO w aB 0 t1 t2 t3) :: (aB, baObj #[]) :: []) (by walk_at "mine mem")) hC h1 hr6 rfl (by k_is) rfl (fun _ => rfl) (fun _ => Nat.le_of_ble_eq_true rfl) (fun k10 hq10 tq10 F10 N10 => ?_) rfl rfl rfl
  (try clear F9)
  (try clear N9)
  try dsimp only
  walk_at "mine nils"
  walk_at "mine end"
  exact ⟨[(x, _), (dx, _), (aMem, _), (dMem, _), (aB, _)], ⟨rfl, _, aMem, dMem, aB, _, _, _, t1, t2, t3, m1, m2, m3, m4, hdm, m6, m7, n1, n2, rfl⟩, by walk_at "mine mem"⟩
section
variable {M : Model} {A : Around} {E : Value → Shared → Prop} {s' : Shared} {base g G : Heap} {outer : List Env} {L a e d : Addr} {m : PySem.Str → Option Value} {name : PySem.Str} {scope : Scope} {cd : Value} {Q : Unit → Shared → Prop} {news rest : Led}
theorem leave_onDR (K : Below A base outer g) (F : Fr g L G m) (R : RaisedD G (envOf name scope L a cd :: outer) e d news s'.heap) (hsm : G.UpToSlots s'.heap) (hrest : ∀ q ∈ rest, G.get? q.1 = some q.2 ∧ q.1 ≠ L ∧ g.get? q.1 = none)
    (hQ : ∀ h', RaisedD g outer e d (news ++ rest) h' → g.UpToSlots h' → Q () { s' with heap := h' }) :
    wpAny M (A.deeper (envOf name scope L a cd)) (leaving (envOf name scope L a cd) (.ref e)) Q E s' := by
  obtain ⟨B, hBG, hl, hfl⟩ := R
  refine leaveNextD (Around.frames_deeper K.stack) rfl hfl fun h' x u => hQ h' ⟨B, fun b o q nm => hBG b o (F.keep b o q) (fun hm => ?_), fun q hq => ?_, x⟩ ((Heap.UpToSlots.of_keeps F.keep).trans (hsm.trans u))
  · rcases kts_mem hm with z | z
    · rw [z, kts_self F] at q; cases q
    · exact nm z
  · rcases List.mem_append.mp hq with hq | hq
    · exact ⟨(hl q hq).1, kts_none F.keep (hl q hq).2⟩
    · obtain ⟨r1, r2, r3⟩ := hrest q hq
      refine ⟨hBG _ _ r1 fun hm => ?_, r3⟩
      rcases kts_mem hm with z | z
      · exact r2 z
      · obtain ⟨_, o, ho, _⟩ := K.frames.mem z
        rw [r3] at ho; cases ho
theorem RaisedD.sub {l : List Env} {h : Heap} {news' : Led} (R : RaisedD g l e d news h) (i : ∀ q ∈ news', q ∈ news) : RaisedD g l e d news' h := by
  obtain ⟨B, a, b, c⟩ := R
  exact ⟨B, a, fun q hq => b q (i q hq), c⟩
end
theorem lt300 {n : Int} (h1 : n < 2 ^ 299) : n < 2 ^ 300 := Int.lt_trans h1 (by decide +kernel)
theorem touch_300 {n p s : Int} (hn : n ≤ 131072) (hp : p < 2 ^ 256) (hs : s ≤ 70) : touchI n p s < 2 ^ 300 := by
  have e : (2 : Int) ^ 300 = 17592186044416 * 2 ^ 256 := by decide +kernel
  rw [e]
  generalize (2 : Int) ^ 256 = z at *
  unfold touchI
  split <;> omega
set_option maxHeartbeats 8000000 in
theorem grow_spec (w : World) (x dx aMsg aSt aMem aJ dMem aB : Addr) (gas n place size : Int) (b : Array UInt8) (tk : Nat → Tok) (tg t1 t2 t3 tp ts : Tok)
    (h1 : @Ne Nat dx x) (h2 : @Ne Nat aMem x) (h3 : @Ne Nat aMem dx) (h4 : @Ne Nat dMem x) (h5 : @Ne Nat dMem dx) (h6 : @Ne Nat dMem aMem) (h7 : @Ne Nat aB x) (h8 : @Ne Nat aB dx) (h9 : @Ne Nat aB aMem) (h10 : @Ne Nat aB dMem)
    (hn0 : 0 ≤ n) (hn1 : n ≤ 131072) (hbs : (b.size : Int) = 32 * n) (hp1 : place < 2 ^ 256) (hs1 : size ≤ 70) :
    SSpec w 40 277 [.ref x, .int place tp, .int size ts] [(x, instObj 287 dx), (dx, frmO w aMsg aSt aMem gas aJ tk tg), (aMem, instObj 210 dMem), (dMem, memO w aB n t1 t2 t3), (aB, baObj b)] (fun _ => True)
      (fun v T' => v = .none ∧ costI (touchI n place size) - costI n ≤ gas ∧ touchI n place size ≤ 131072 ∧ ∃ tg t1 t2 t3, T' = [(x, instObj 287 dx), (dx, frmO w aMsg aSt aMem (gas - (costI (touchI n place size) - costI n)) aJ tk tg), (aMem, instObj 210 dMem), (dMem, memO w aB (touchI n place size) t1 t2 t3), (aB, baObj (b ++ zeros (32 * (touchI n place size - n)).toNat))])
      (fun _ g outer e h' => (gas < costI (touchI n place size) - costI n ∧ HaltEr w "gas" [(x, instObj 287 dx), (dx, frmO w aMsg aSt aMem gas aJ tk tg), (aMem, instObj 210 dMem), (dMem, memO w aB n t1 t2 t3), (aB, baObj b)] g outer e h') ∨
        (costI (touchI n place size) - costI n ≤ gas ∧ 131072 < touchI n place size ∧ ∃ tg, HaltEr w "memory" [(x, instObj 287 dx), (dx, frmO w aMsg aSt aMem (gas - (costI (touchI n place size) - costI n)) aJ tk tg), (aMem, instObj 210 dMem), (dMem, memO w aB n t1 t2 t3), (aB, baObj b)] g outer e h')) := by
  have hge : n ≤ touchI n place size := touch_ge
  have hW0 : 0 ≤ touchI n place size := by omega
  have hW1 := touch_300 (n := n) (p := place) (s := size) hn1 hp1 hs1
  have hn3 : n < 2 ^ 300 := Int.lt_of_le_of_lt hge hW1
  unfold SSpec
  k_fill
  intro dp un gd outer base g mean mg mb s R B hst hsz hN X Tp hd hu hG hok her
  have hb : Binds [(Str.ofString "self", .ref x), (Str.ofString "place", .int place tp), (Str.ofString "size", .int size ts)] := .mk
  walk_at "mine enterS"
  with_reducible refine S_cons (wpS_any ?_)
  walk_at "mine stepsS"
  refine S_cons (S_Expr (S_Meth1 (K := Mine.hd.heap_1 w.params) ?_))
  walk_at "mine stepsS"
  (with_reducible rename News _ _ _ _ => N1)
  refine' useSX (pay_spec _ _ _ _ _ _ _ _ _ _ _ _ ?s1).S (Take.cons ?ta (Take.cons ?tb Take.nil)) ?kB ?kF ?kN ?kX ?kT ?khf ?khk ?kd ?ku ?kG ?_ ?kE
  case kF => k_asm
  case kN => k_asm
  case ta => walk_at "mine take1"
  case tb => walk_at "mine take1"
  case s1 => k_ne
  walk_at "mine std"
  case kG => exact fun _ _ => trivial
  case kE =>
    rintro G e h2 tk2 FG hrest ⟨hlt, d, tk3, t, RD⟩ up
    dsimp only
    refine' leave_onDR (by assumption) FG RD up (rest_in N1 hrest (by walk_at "mine mem")) ?_
    intro h3 RD3 up3
    exact her _ _ _ (.inl ⟨hlt, d, tk3, t, RaisedD.sub RD3 (by walk_at "mine mem")⟩) up3
  rintro v T' h2 tk2 ⟨rfl, hle, tg2, rfl⟩ F2 N2 d1 d2
  clear d1 d2 N1
  refine ⟨rfl, ?_⟩
  try dsimp only [List.cons_append, List.nil_append] at N2
  try dsimp only
  try k_sweep
  try k_fold
  refine S_cons (S_Expr (S_Meth1 (K := Mine.hd.heap_1 w.params) ?_))
  walk_at "mine stepsS"
  (with_reducible rename News _ _ _ _ => N1)
  walk_at "mine S grown"
  case kE =>
    rintro G e h2 tk2 FG hrest ⟨hbig, d, tk3, t, RD⟩ up
    dsimp only
    refine' leave_onDR (by assumption) FG RD up (rest_in N1 hrest (by walk_at "mine mem")) ?_
    intro h3 RD3 up3
    exact her _ _ _ (.inr ⟨hle, hbig, tg2, d, tk3, t, RaisedD.sub RD3 (by walk_at "mine mem")⟩) up3
  rintro v T' h2 tk2 ⟨rfl, hsm, u1, u2, u3, rfl⟩ F3 N3 d1 d2
  clear d1 d2
  refine ⟨rfl, ?_⟩
  try dsimp only [List.cons_append, List.nil_append] at N3
  try dsimp only
  try k_sweep
  try k_fold
  walk_at "mine nils"
  walk_at "mine end"
  exact ⟨[(x, _), (dx, _), (aMem, _), (dMem, _), (aB, _)], ⟨rfl, hle, hsm, tg2, u1, u2, u3, rfl⟩, by walk_at "mine mem"⟩
/-- what a frame would pay, and the words behind it -/
noncomputable def costW (way n place size : Int) : Int := if way = 0 then size else costI (touchI n place size) - costI n
noncomputable def freshW (way n place size : Int) : Int := if way = 0 then n else touchI n place size
theorem costW0 {way n place size : Int} (h : way = 0) : costW way n place size = size := if_pos h
theorem costW1 {way n place size : Int} (h : way ≠ 0) : costW way n place size = costI (touchI n place size) - costI n := if_neg h
theorem freshW0 {way n place size : Int} (h : way = 0) : freshW way n place size = n := if_pos h
theorem freshW1 {way n place size : Int} (h : way ≠ 0) : freshW way n place size = touchI n place size := if_neg h
theorem TSpec.name {w : World} {d : Nat} {f : Addr} {args : List Value} {T : Led} {G : Heap → Prop} {Ok : Value → Led → Prop} (h : ∀ Ok' : Value → Led → Prop, (∀ v T', Ok v T' → Ok' v T') → TSpec w d f args T G Ok') : TSpec w d f args T G Ok := h Ok fun _ _ z => z
set_option maxHeartbeats 8000000 in
theorem paid_spec (w : World) (x dx aMsg aSt aMem aJ dMem aB : Addr) (gas n way place size : Int) (b : Array UInt8) (tk : Nat → Tok) (tg t1 t2 t3 tw tp ts : Tok)
    (h1 : @Ne Nat dx x) (h2 : @Ne Nat aMem x) (h3 : @Ne Nat aMem dx) (h4 : @Ne Nat dMem x) (h5 : @Ne Nat dMem dx) (h6 : @Ne Nat dMem aMem) (h7 : @Ne Nat aB x) (h8 : @Ne Nat aB dx) (h9 : @Ne Nat aB aMem) (h10 : @Ne Nat aB dMem)
    (hn0 : 0 ≤ n) (hn1 : n ≤ 131072) (hbs : (b.size : Int) = 32 * n) (hp1 : place < 2 ^ 256) (hs1 : size ≤ 70) :
    TSpec w 60 393 [.ref x, .int way tw, .int place tp, .int size ts] [(x, instObj 287 dx), (dx, frmO w aMsg aSt aMem gas aJ tk tg), (aMem, instObj 210 dMem), (dMem, memO w aB n t1 t2 t3), (aB, baObj b)] (fun _ => True)
      (fun v T' => (gas < costW way n place size ∧ (∃ t, v = .str "gas" t) ∧ T' = [(x, instObj 287 dx), (dx, frmO w aMsg aSt aMem gas aJ tk tg), (aMem, instObj 210 dMem), (dMem, memO w aB n t1 t2 t3), (aB, baObj b)]) ∨
        (costW way n place size ≤ gas ∧ 131072 < freshW way n place size ∧ (∃ t, v = .str "memory" t) ∧ ∃ tg, T' = [(x, instObj 287 dx), (dx, frmO w aMsg aSt aMem (gas - costW way n place size) aJ tk tg), (aMem, instObj 210 dMem), (dMem, memO w aB n t1 t2 t3), (aB, baObj b)]) ∨
        (costW way n place size ≤ gas ∧ freshW way n place size ≤ 131072 ∧ (∃ t, v = .str "" t) ∧ ∃ tg t1 t2 t3, T' = [(x, instObj 287 dx), (dx, frmO w aMsg aSt aMem (gas - costW way n place size) aJ tk tg), (aMem, instObj 210 dMem), (dMem, memO w aB (freshW way n place size) t1 t2 t3), (aB, baObj (b ++ zeros (32 * (freshW way n place size - n)).toNat))])) := by
  refine TSpec.name fun Ok hOk => ?_
  unfold TSpec
  k_fill
  intro dp un gd outer base g mean mg mb s R B hst hsz hN X Tp XB TB hd hu hG hok
  have hb : Binds [(Str.ofString "frame", .ref x), (Str.ofString "way", .int way tw), (Str.ofString "place", .int place tp), (Str.ofString "size", .int size ts)] := .mk
  walk_at "mine enterT"
  rename_i L hL FL NL lL
  refine S_cons (S_Try ?_)
  refine foldE (P := fun env E' => ∀ (G : Heap) (m : PySem.Str → Option Value) (e : Addr) (h2 : Heap) (tk2 : Nat) (T rest : Led) (word : PySem.Str) (T' : Led), Fr g L G m → (∀ q ∈ rest, G.get? q.1 = some q.2 ∧ q.1 ≠ L ∧ g.get? q.1 = none) → HaltEr w word T G (env :: outer) e h2 → G.UpToSlots h2 → (∀ p ∈ T', p ∈ T ++ rest) → (∀ t, Ok (.str word t) T') → E' (.ref e) { s with heap := h2, toks := tk2 }) ?_ (fun E0 hE0 => ?_)
  · intro G m e h2 tk2 T rest word T' FG hrest ⟨d, tkd, t, RD⟩ up hsub hO
    clear FL NL
    try dsimp only
    refine' caughtD (KF := Mine.hd.heap_1 w.params) RD FG B up XB TB hrest ?kx ?kq ?kk
    case kx => k_is
    case kq => exact rfl
    case kk =>
      intro h3 g3 tk3 oe3 vs3 T3 F3 N3 hc3 hd3 hf3 B3 X3 Tp3
      (try dsimp only [List.cons_append, List.nil_append] at N3)
      walk_at "mine steps"
      (try k_unfold)
      (try dsimp only)
      refine ⟨_, _, _, _, rfl, rfl, F3, fun q hq => N3 q (List.mem_cons_of_mem _ hq), fun h5 m5 tk5 F5 N5 => ?_⟩
      (try dsimp only)
      exact endT hok T3 F5 N5 ⟨T', hO _, fun p hp => List.mem_cons_of_mem _ (hsub p hp)⟩
  refine S_cons (S_If (wpS_any ?_))
  walk_at "mine stepsS"
  · rename way = 0 => hw
    have e1 := costW0 (n := n) (place := place) (size := size) hw
    have e2 := freshW0 (n := n) (place := place) (size := size) hw
    rw [e1, e2] at hOk
    refine S_cons (S_Expr (S_Meth1 (K := Mine.hd.heap_1 w.params) ?_))
    walk_at "mine stepsS"
    (with_reducible rename News _ _ _ _ => N1)
    refine' useSX (pay_spec _ _ _ _ _ _ _ _ _ _ _ _ ?s1).S (Take.cons ?ta (Take.cons ?tb Take.nil)) ?kB ?kF ?kN ?kX ?kT ?khf ?khk ?kd ?ku ?kG ?_ ?kE
    case kF => k_asm
    case kN => k_asm
    case ta => walk_at "mine take1"
    case tb => walk_at "mine take1"
    case s1 => k_ne
    case kB => assumption
    case kX => exact X
    case kT => exact Tp
    case khf => exact rfl
    case khk => exact rfl
    case kd => walk_at "mine num"
    case ku => walk_at "mine num"
    case kG => exact fun _ _ => trivial
    case kE => exact fun G e h2 tk2 FG hrest ⟨hlt, hEr⟩ up => hE0 _ _ _ _ _ _ _ _ [(x, instObj 287 dx), (dx, frmO w aMsg aSt aMem gas aJ tk tg), (aMem, instObj 210 dMem), (dMem, memO w aB n t1 t2 t3), (aB, baObj b)] FG (rest_in N1 hrest (by walk_at "mine mem")) hEr up (by walk_at "mine mem") fun t => hOk _ _ (.inl ⟨hlt, ⟨_, rfl⟩, rfl⟩)
    rintro v T' h2 tk2 ⟨rfl, hle, tg2, rfl⟩ F2 N2 d1 d2
    clear d1 d2 N1
    refine ⟨rfl, ?_⟩
    try dsimp only [List.cons_append, List.nil_append] at N2
    try dsimp only
    try k_sweep
    try k_fold
    walk_at "mine nils"
    try dsimp only
    walk_at "mine next"
    walk_at "mine endT"
    refine ⟨[(x, _), (dx, _), (aMem, _), (dMem, _), (aB, _)], hOk _ _ (.inr (.inr ⟨hle, hn1, ⟨_, rfl⟩, tg2, t1, t2, t3, ?hz⟩)), by walk_at "mine mem"⟩
    case hz => rw [zeros_none rfl]
  · rename way ≠ 0 => hw
    have e1 := costW1 (n := n) (place := place) (size := size) hw
    have e2 := freshW1 (n := n) (place := place) (size := size) hw
    rw [e1, e2] at hOk
    refine S_cons (S_Expr (S_Meth1 (K := Mine.hd.heap_1 w.params) ?_))
    walk_at "mine stepsS"
    (with_reducible rename News _ _ _ _ => N1)
    refine' useSX (grow_spec w x dx aMsg aSt aMem aJ dMem aB gas n place size b tk tg t1 t2 t3 _ _ h1 h2 h3 h4 h5 h6 h7 h8 h9 h10 hn0 hn1 hbs hp1 hs1) (Take.cons ?ta (Take.cons ?tb (Take.cons ?tc (Take.cons ?td (Take.cons ?te Take.nil))))) ?kB ?kF ?kN ?kX ?kT ?khf ?khk ?kd ?ku ?kG ?_ ?kE
    case kF => k_asm
    case kN => k_asm
    case ta => walk_at "mine take1"
    case tb => walk_at "mine take1"
    case tc => walk_at "mine take1"
    case td => walk_at "mine take1"
    case te => walk_at "mine take1"
    case kB => assumption
    case kX => exact X
    case kT => exact Tp
    case khf => exact rfl
    case khk => exact rfl
    case kd => walk_at "mine num"
    case ku => walk_at "mine num"
    case kG => exact fun _ _ => trivial
    case kE =>
      rintro G e h2 tk2 FG hrest er up
      rcases er with ⟨hlt, hEr⟩ | ⟨hle, hbig, tg2, hEr⟩
      · exact hE0 _ _ _ _ _ _ _ _ _ FG (rest_in N1 hrest (by walk_at "mine mem")) hEr up (fun p hp => List.mem_append_left _ hp) fun t => hOk _ _ (.inl ⟨hlt, ⟨_, rfl⟩, rfl⟩)
      · exact hE0 _ _ _ _ _ _ _ _ _ FG (rest_in N1 hrest (by walk_at "mine mem")) hEr up (fun p hp => List.mem_append_left _ hp) fun t => hOk _ _ (.inr (.inl ⟨hle, hbig, ⟨_, rfl⟩, tg2, rfl⟩))
    rintro v T' h2 tk2 ⟨rfl, hle, hsm, tg2, u1, u2, u3, rfl⟩ F2 N2 d1 d2
    clear d1 d2 N1
    refine ⟨rfl, ?_⟩
    try dsimp only [List.cons_append, List.nil_append] at N2
    try dsimp only
    try k_sweep
    try k_fold
    walk_at "mine nils"
    try dsimp only
    walk_at "mine next"
    walk_at "mine endT"
    exact ⟨[(x, _), (dx, _), (aMem, _), (dMem, _), (aB, _)], hOk _ _ (.inr (.inr ⟨hle, hsm, ⟨_, rfl⟩, tg2, u1, u2, u3, rfl⟩)), by walk_at "mine mem"⟩
noncomputable def msgM (x : Addr) (gas : Int) (tk : Nat → Tok) : PySem.Str → Option Value := fun y => List.lookup y [(Str.ofString "self", Value.ref x), (Str.ofString "kind", Value.str "call" (tk 20)), (Str.ofString "caller", Value.int 1 (tk 21)), (Str.ofString "target", Value.int 2 (tk 22)), (Str.ofString "code_address", Value.int 2 (tk 23)), (Str.ofString "value", Value.int 0 (tk 24)), (Str.ofString "told_value", Value.int 0 (tk 25)), (Str.ofString "data", Value.bytes #[] (tk 26)), (Str.ofString "gas", Value.int gas (tk 27)), (Str.ofString "is_static", Value.bool false), (Str.ofString "depth", Value.int 0 (tk 28)), (Str.ofString "salt", Value.int 0 (tk 29))].reverse
set_option maxHeartbeats 8000000 in
theorem msginit_fun (w : World) (x dx : Addr) (gas : Int) (tk : Nat → Tok) (h1 : @Ne Nat dx x) :
    SSpec w 10 228 [.ref x, .str "call" (tk 20), .int 1 (tk 21), .int 2 (tk 22), .int 2 (tk 23), .int 0 (tk 24), .int 0 (tk 25), .bytes #[] (tk 26), .int gas (tk 27), .bool false, .int 0 (tk 28), .int 0 (tk 29)] [(x, instObj 231 dx), (dx, emptyDict)] (fun _ => True) (fun v T' => v = .none ∧ ∃ tk' : Nat → Tok, T' = [(x, instObj 231 dx), (dx, msgO w gas tk')]) (fun _ _ _ _ _ => False) := by
  unfold SSpec
  k_fill
  intro dp un gd outer base g mean mg mb s R B hst hsz hN X Tp hd hu hG hok her
  have hb : Binds [(Str.ofString "self", .ref x), (Str.ofString "kind", .str "call" (tk 20)), (Str.ofString "caller", .int 1 (tk 21)), (Str.ofString "target", .int 2 (tk 22)), (Str.ofString "code_address", .int 2 (tk 23)), (Str.ofString "value", .int 0 (tk 24)), (Str.ofString "told_value", .int 0 (tk 25)), (Str.ofString "data", .bytes #[] (tk 26)), (Str.ofString "gas", .int gas (tk 27)), (Str.ofString "is_static", .bool false), (Str.ofString "depth", .int 0 (tk 28)), (Str.ofString "salt", .int 0 (tk 29))] := .mk
  walk_at "mine enterS"
  rename_i L hL FL NL lL
  have hC : StoreOk (Mine.hd.heap_1 w.params) 231 := ⟨by k_is, by k_is, by k_is⟩
  replace FL : Fr g L hL (msgM x gas tk) := FL
  replace NL : News g L hL ((x, instObj 231 dx) :: (dx, dictOf ((msgE w gas tk).take 0) 0) :: []) := NL
  clear hst hsz hN hG Tp hd hu her lL
  refine S_cons (wpS_any (attr_name (es' := fun k0 => (msgE w gas (upT tk 0 k0)).take 1) FL X NL hC h1 (List.forall_mem_nil _) rfl rfl (by k_is) rfl (fun _ => rfl) (fun _ => Nat.le_of_ble_eq_true rfl) (fun k0 hq0 t0 F0 N0 => ?_) rfl rfl rfl rfl rfl rfl))
  clear FL NL
  try dsimp only
  refine S_cons (wpS_any (attr_name (es' := fun k1 => (msgE w gas (upT (upT tk 0 k0) 1 k1)).take 2) F0 X N0 hC h1 (List.forall_mem_nil _) rfl rfl (by k_is) rfl (fun _ => rfl) (fun _ => Nat.le_of_ble_eq_true rfl) (fun k1 hq1 t1 F1 N1 => ?_) rfl rfl rfl rfl rfl rfl))
  clear F0 N0
  try dsimp only
  refine S_cons (wpS_any (attr_name (es' := fun k2 => (msgE w gas (upT (upT (upT tk 0 k0) 1 k1) 2 k2)).take 3) F1 X N1 hC h1 (List.forall_mem_nil _) rfl rfl (by k_is) rfl (fun _ => rfl) (fun _ => Nat.le_of_ble_eq_true rfl) (fun k2 hq2 t2 F2 N2 => ?_) rfl rfl rfl rfl rfl rfl))
  clear F1 N1
  try dsimp only
  refine S_cons (wpS_any (attr_name (es' := fun k3 => (msgE w gas (upT (upT (upT (upT tk 0 k0) 1 k1) 2 k2) 3 k3)).take 4) F2 X N2 hC h1 (List.forall_mem_nil _) rfl rfl (by k_is) rfl (fun _ => rfl) (fun _ => Nat.le_of_ble_eq_true rfl) (fun k3 hq3 t3 F3 N3 => ?_) rfl rfl rfl rfl rfl rfl))
  clear F2 N2
  try dsimp only
  refine S_cons (wpS_any (attr_name (es' := fun k4 => (msgE w gas (upT (upT (upT (upT (upT tk 0 k0) 1 k1) 2 k2) 3 k3) 4 k4)).take 5) F3 X N3 hC h1 (List.forall_mem_nil _) rfl rfl (by k_is) rfl (fun _ => rfl) (fun _ => Nat.le_of_ble_eq_true rfl) (fun k4 hq4 t4 F4 N4 => ?_) rfl rfl rfl rfl rfl rfl))
  clear F3 N3
  try dsimp only
  refine S_cons (wpS_any (attr_name (es' := fun k5 => (msgE w gas (upT (upT (upT (upT (upT (upT tk 0 k0) 1 k1) 2 k2) 3 k3) 4 k4) 5 k5)).take 6) F4 X N4 hC h1 (List.forall_mem_nil _) rfl rfl (by k_is) rfl (fun _ => rfl) (fun _ => Nat.le_of_ble_eq_true rfl) (fun k5 hq5 t5 F5 N5 => ?_) rfl rfl rfl rfl rfl rfl))
  clear F4 N4
  try dsimp only
  refine S_cons (wpS_any (attr_name (es' := fun k6 => (msgE w gas (upT (upT (upT (upT (upT (upT (upT tk 0 k0) 1 k1) 2 k2) 3 k3) 4 k4) 5 k5) 6 k6)).take 7) F5 X N5 hC h1 (List.forall_mem_nil _) rfl rfl (by k_is) rfl (fun _ => rfl) (fun _ => Nat.le_of_ble_eq_true rfl) (fun k6 hq6 t6 F6 N6 => ?_) rfl rfl rfl rfl rfl rfl))
  clear F5 N5
  try dsimp only
  refine S_cons (wpS_any (attr_name (es' := fun k7 => (msgE w gas (upT (upT (upT (upT (upT (upT (upT (upT tk 0 k0) 1 k1) 2 k2) 3 k3) 4 k4) 5 k5) 6 k6) 7 k7)).take 8) F6 X N6 hC h1 (List.forall_mem_nil _) rfl rfl (by k_is) rfl (fun _ => rfl) (fun _ => Nat.le_of_ble_eq_true rfl) (fun k7 hq7 t7 F7 N7 => ?_) rfl rfl rfl rfl rfl rfl))
  clear F6 N6
  try dsimp only
  refine S_cons (wpS_any (attr_name (es' := fun k8 => (msgE w gas (upT (upT (upT (upT (upT (upT (upT (upT (upT tk 0 k0) 1 k1) 2 k2) 3 k3) 4 k4) 5 k5) 6 k6) 7 k7) 8 k8)).take 9) F7 X N7 hC h1 (List.forall_mem_nil _) rfl rfl (by k_is) rfl (fun _ => rfl) (fun _ => Nat.le_of_ble_eq_true rfl) (fun k8 hq8 t8 F8 N8 => ?_) rfl rfl rfl rfl rfl rfl))
  clear F7 N7
  try dsimp only
  refine S_cons (wpS_any (attr_name (es' := fun k9 => (msgE w gas (upT (upT (upT (upT (upT (upT (upT (upT (upT (upT tk 0 k0) 1 k1) 2 k2) 3 k3) 4 k4) 5 k5) 6 k6) 7 k7) 8 k8) 9 k9)).take 10) F8 X N8 hC h1 (List.forall_mem_nil _) rfl rfl (by k_is) rfl (fun _ => rfl) (fun _ => Nat.le_of_ble_eq_true rfl) (fun k9 hq9 t9 F9 N9 => ?_) rfl rfl rfl rfl rfl rfl))
  clear F8 N8
  try dsimp only
  refine S_cons (wpS_any (attr_name (es' := fun k10 => (msgE w gas (upT (upT (upT (upT (upT (upT (upT (upT (upT (upT (upT tk 0 k0) 1 k1) 2 k2) 3 k3) 4 k4) 5 k5) 6 k6) 7 k7) 8 k8) 9 k9) 10 k10)).take 11) F9 X N9 hC h1 (List.forall_mem_nil _) rfl rfl (by k_is) rfl (fun _ => rfl) (fun _ => Nat.le_of_ble_eq_true rfl) (fun k10 hq10 t10 F10 N10 => ?_) rfl rfl rfl rfl rfl rfl))
  clear F9 N9
  try dsimp only
  walk_at "mine nils"
  walk_at "mine end"
  exact ⟨[(x, _), (dx, _)], ⟨rfl, _, rfl⟩, by walk_at "mine mem"⟩
noncomputable def tkM (k_20 k_21 k_22 k_23 k_24 k_25 k_26 k_27 k_28 k_29 : Tok) (i : Nat) : Tok :=
  match i with | 20 => k_20 | 21 => k_21 | 22 => k_22 | 23 => k_23 | 24 => k_24 | 25 => k_25 | 26 => k_26 | 27 => k_27 | 28 => k_28 | 29 => k_29 | _ => k_20
theorem msginit_spec (w : World) (x dx : Addr) (gas : Int) (k_20 k_21 k_22 k_23 k_24 k_25 k_26 k_27 k_28 k_29 : Tok) (h1 : @Ne Nat dx x) :
    SSpec w 10 228 [.ref x, .str "call" k_20, .int 1 k_21, .int 2 k_22, .int 2 k_23, .int 0 k_24, .int 0 k_25, .bytes #[] k_26, .int gas k_27, .bool false, .int 0 k_28, .int 0 k_29] [(x, instObj 231 dx), (dx, emptyDict)] (fun _ => True) (fun v T' => v = .none ∧ ∃ tk' : Nat → Tok, T' = [(x, instObj 231 dx), (dx, msgO w gas tk')]) (fun _ _ _ _ _ => False) :=
  msginit_fun w x dx gas (tkM k_20 k_21 k_22 k_23 k_24 k_25 k_26 k_27 k_28 k_29) h1
section
variable {M : Model} {A : Around} {E : Value → Shared → Prop} {s : Shared} {env : Env} {K : Frag}
theorem S_two {x : Sem Value} {rest : List (Bool × Sem Value)} {Q : List Value → Shared → Prop} (h : wpS M A x (fun v s₁ => wpAny M A (spliced rest) (fun vs s₂ => Q (v :: vs) s₂) E s₁) E s) : wpS M A (spliced ((false, x) :: rest)) Q E s := by
  rw [spliced]
  refine wpS_bind (wpS_mono h (fun v s₁ h₁ => ?_) fun _ _ x => x)
  simp only [Bool.false_eq_true, if_false]
  exact wpS_bind (wpS_pure (wpS_bind (wpS_holding (wpS_mono (wpS_any h₁) (fun vs s₂ h₂ => wpS_pure h₂) fun _ _ x => x))))
theorem S_Call2 {func e : PySem.Expr} {rest : List PySem.Expr} {pos : Pos} {Q : Value → Shared → Prop}
    (h : wpAny M A (eval func env) (fun f s₁ => KeepsF K f ∧ wpS M A (eval e env) (fun v s₂ => wpAny M A (spliced (backTo pos (starEach rest env))) (fun vs s₃ => K.In s₃.heap ∧ wpS M A (call f (v :: vs)) Q E s₃) E s₂) E s₁) E s)
    (he : eval (.Call func (e :: rest) [] pos) env = (do callWith pos (← eval func env) [] (backTo pos (starEach (e :: rest) env)) (backToKw pos (keywordEach [] env))) := by rfl)
    (hs : starEach (e :: rest) env = (false, eval e env) :: starEach rest env := by rfl) (hplain : (backTo pos (starEach rest env)).any (·.1) = false := by rfl) :
    wpS M A (eval (.Call func (e :: rest) [] pos) env) Q E s := by
  rw [he]
  refine wpS_bind (wpS_any (wpAny_mono h (fun f s₁ h₁ => ?_) fun _ _ x => x))
  rw [hs]
  exact S_callX (keywords := []) (P := K.In) (by show (((false || (backTo pos (starEach rest env)).any (·.1))) || false) = false; rw [hplain]; rfl) (h₁.1 M) (S_args (S_two h₁.2))
end
theorem m_four {m : Str → Option Value} {a b c d : Str} {va vb vc vd : Option Value} (ha : m a = va) (hb : m b = vb) (hc : m c = vc) (hd : m d = vd) : ∀ y, m y = if y = a then va else if y = b then vb else if y = c then vc else if y = d then vd else m y := fun y => by
  by_cases h1 : y = a
  · rw [if_pos h1, h1, ha]
  · rw [if_neg h1]
    exact m_three hb hc hd y
theorem one_in {p : Int} (h : p ∈ [(0 : Int), 1, 2, 5, 31]) : p ≤ 70 := by
  simp only [List.mem_cons, List.not_mem_nil, or_false] at h
  omega
theorem fresh_in {way n place size : Int} (h0 : 0 ≤ n) (h1 : n ≤ 131072) (hp : place < 2 ^ 256) (hs : size ≤ 70) : 0 ≤ freshW way n place size ∧ freshW way n place size < 2 ^ 300 := by
  unfold freshW
  split
  · exact ⟨h0, Int.lt_of_le_of_lt h1 (by decide +kernel)⟩
  · exact ⟨Int.le_trans h0 touch_ge, touch_300 h1 hp hs⟩
theorem fresh_ge {way n place size : Int} : n ≤ freshW way n place size := by
  unfold freshW
  split
  · exact Int.le_refl _
  · exact touch_ge
theorem zeros_add {n k : Int} (h0 : 0 ≤ n) (h : n ≤ k) : zeros (32 * n).toNat ++ zeros (32 * (k - n)).toNat = zeros (32 * k).toNat := by
  rw [Array.replicate_append_replicate]
  congr 1
  omega
theorem eqz {a b : Array UInt8} (h : a = b) : Value.bool (a.toList == b.toList) = .bool true := by rw [h]; simp
/-- what stands behind each turn -/
inductive FrJ (w : World) (aW aC : Addr) (oC : Obj) (x dx aMsg aSt aMem aJ dMem aB : Addr) (tkm : Nat → Tok) (Bel : Prop) (m₁ : PySem.Str → Option Value) (n₁ : Led) : Prop
  | mk (B : Bel) (oW' : Obj) (gas n : Int) (tg v1 v2 t1 t2 t3 : Tok) (e1 : m₁ (Str.ofString "well") = some (.ref aW)) (e2 : m₁ (Str.ofString "frame") = some (.ref x)) (e3 : m₁ (Str.ofString "gas") = some (.int gas v1)) (e4 : m₁ (Str.ofString "words") = some (.int n v2))
      (hW : WellO aC oW') (h0 : 0 ≤ n) (h1 : n ≤ 131072) (e : n₁ = [(aW, oW'), (aC, oC), (x, instObj 287 dx), (dx, frmO w aMsg aSt aMem gas aJ tkm tg), (aMem, instObj 210 dMem), (dMem, memO w aB n t1 t2 t3), (aB, baObj (zeros (32 * n).toNat))]) : FrJ w aW aC oC x dx aMsg aSt aMem aJ dMem aB tkm Bel m₁ n₁
set_option maxHeartbeats 8000000 in
theorem frameright_spec (w : World) (aW aC : Addr) (oW oC : Obj) (hW : WellO aC oW) (hC : CellsO oC) (hne : @Ne Nat aW aC) :
    TSpec w 80 400 [.ref aW] [(aW, oW), (aC, oC)] (fun _ => True) (fun v T' => v = .bool true ∧ ∃ oW', WellO aC oW' ∧ T' = [(aW, oW'), (aC, oC)]) := by
  unfold TSpec
  k_fill
  intro dp un gd outer base g mean mg mb s R B hst hsz hN X Tp XB TB hd hu hG hok
  have hb : Binds [(Str.ofString "well", .ref aW)] := .mk
  have HB : Hide (_ ∧ _) := And.intro XB TB
  clear XB TB
  walk_at "mine enterT"
  rename_i L hL FL NL lL
  with_reducible refine S_cons (wpS_any ?_)
  walk_at "mine stepsS"
  rename_i D hD lD hD1 tkD gas tg oW1 hgas hW1 hD2 FD ND
  have N0 := News.sub ND (l' := [(aW, oW1), (aC, oC)]) (by walk_at "mine mem")
  clear ND
  refine S_cons (S_AssignSwap (S_Tuple (S_Call2 (K := Mine.hd.heap_1 w.params) ?_)))
  walk_at "mine stepsS"
  refine S_Call1 (K := Mine.hd.heap_1 w.params) ?_
  walk_at "mine stepsS"
  refine' useMake (T := []) (fun x dx _ _ h => msginit_spec w x dx gas _ _ _ _ _ _ _ _ _ _ h) Take.nil ?hv ?kB ?kF ?kN ?kX ?kT ?hm ?hi ?hfn ?khf ?khk ?kd ?ku ?kG ?_
  case kF => k_asm
  case kN => k_asm
  walk_at "mine std"
  case hv => rintro x dx v T' ⟨h, _⟩; exact h
  case hm => first | k_is | exact rfl
  case hi => first | k_is | exact rfl
  case hfn => first | k_is | exact rfl
  case kG => exact fun _ _ _ _ => trivial
  rintro aMsg dm v T' h1 tk1 ⟨-, kM, rfl⟩ F1 N1 d1 d2
  have hdm : @Ne Nat dm aMsg := news_ne N1 (.tail _ (.head _)) (.head _) (by intro e; cases e)
  have d3 := neAll2_of d1
  clear d1 d2
  simp only [NeAll2, NeAll, and_true] at d3
  try dsimp only [List.cons_append, List.nil_append] at N1
  try dsimp only
  try k_sweep
  try k_fold
  walk_at "mine stepsS"
  refine' useMake (T := [(aMsg, _), (dm, _)]) ?S (Take.cons ?ta (Take.cons ?tb Take.nil)) ?hv ?kB ?kF ?kN ?kX ?kT ?hm ?hi ?hfn ?khf ?khk ?kd ?ku ?kG ?_
  case kF => k_asm
  case kN => k_asm
  case ta => walk_at "mine take1"
  case tb => walk_at "mine take1"
  case S => exact fun x dx hTx hTd h => frameinit_spec w x dx aMsg dm gas _ _ h (hTx _ (.head _)) (hTd _ (.head _)) (hTx _ (.tail _ (.head _))) (hTd _ (.tail _ (.head _))) hdm
  walk_at "mine std"
  case hv => rintro x dx v T' ⟨h, _⟩; exact h
  case hm => first | k_is | exact rfl
  case hi => first | k_is | exact rfl
  case hfn => first | k_is | exact rfl
  case kG => exact fun _ _ _ _ => trivial
  rintro x dx v T' h2 tk2 ⟨-, aSt, aMem, dMem, aB, aJ, tkm, tg2, t1, t2, t3, x2, x3, x4, x5, x6, x7, x8, x9, x10, rfl⟩ F2 N2 d1 d2
  have x1 : @Ne Nat dx x := news_ne N2 (.tail _ (.head _)) (.head _) (by intro e; cases e)
  clear d3
  have d3 := neAll2_of d1
  clear d1 d2
  simp only [NeAll2, NeAll, and_true] at d3
  obtain ⟨⟨f1, f2⟩, ⟨f3, f4⟩, ⟨f5, f6⟩, ⟨f7, f8⟩, f9, f10⟩ := d3
  try dsimp only [List.cons_append, List.nil_append] at N2
  try dsimp only
  try k_sweep
  try k_fold
  walk_at "mine stepsS"
  refine S_cons (S_For ?_)
  walk_at "mine stepsS"
  (with_reducible rename IsRange _ _ _ _ _ _ _ _ => hr)
  (with_reducible rename Fr _ _ _ _ => F3)
  (with_reducible rename News _ _ _ _ => N3)
  rename_i D2 h5 l5 h4 h3 hh2 h1x tkA FA r' tr oW2 q0 q1 hW2 NA hB tkB tr1 tr2 tr3 keep
  clear NA FA keep
  refine' S_rangeT (n := (1 + r').toNat) (fs := outer.filterMap (·.frame)) (news := [(aW, oW2), (aC, oC), (x, instObj 287 dx), (dx, frmO w aMsg aSt aMem gas aJ tkm tg2), (aMem, instObj 210 dMem), (dMem, memO w aB 0 t1 t2 t3), (aB, baObj #[])])
    (fun _ h₁ => FrJ w aW aC oC x dx aMsg aSt aMem aJ dMem aB tkm (Below (AA dp un gd outer) base outer h₁))
    rfl ?kE hr ?ks ?kn rfl rfl F3 (News.sub N3 ?kp) ?kj ?kt ?kd
  case kE => passes_own
  case ks => exact smallR (by omega) (by omega)
  case kn => exact sizeR (by omega)
  case kp => walk_at "mine mem"
  case kj => exact ⟨B, oW2, gas, 0, tg2, _, _, t1, t2, t3, rfl, rfl, rfl, rfl, hW2, by decide, by decide, rfl⟩
  case kd =>
    intro g1 m₁ n₁ h tkh hT hJ F N
    obtain ⟨B1, oW3, gA, n, tgA, v1, v2, w1, w2, w3, e1, e2, e3, e4, hW3, hn0, hn1, rfl⟩ := hJ
    replace F := Fr.to F fun y => by
      show _ = if y = Str.ofString "well" then some (Value.ref aW) else if y = Str.ofString "frame" then some (Value.ref x) else if y = Str.ofString "gas" then some (Value.int gA v1) else if y = Str.ofString "words" then some (Value.int n v2) else m₁ y
      rw [← m_four e1 e2 e3 e4 y]
    clear F3 N3 B X Tp hr hW hW1 hW2
    obtain ⟨XB, TB⟩ := HB
    have X1 := XB.keeps B1.stays
    have T1 := TB.keeps B1.stays
    have hbs : ((zeros (32 * n).toNat).size : Int) = 32 * n := by rw [Array.size_replicate]; omega
    clear XB TB
    generalize hz : zeros (32 * n).toNat = b at N hbs
    walk_at "mine next"
    walk_at "mine endT"
    exact ⟨[(aW, _), (aC, _)], ⟨eqz hz.symm, _, hW3, rfl⟩, by walk_at "mine mem"⟩
  case kt =>
    intro i t g1 m₁ n₁ h tkh I o hi hT hJ off F N
    obtain ⟨B1, oW3, gA, n, tgA, v1, v2, w1, w2, w3, e1, e2, e3, e4, hW3, hn0, hn1, rfl⟩ := hJ
    replace F := Fr.to F fun y => by
      show _ = if y = Str.ofString "turn" then some (Value.int i t) else if y = Str.ofString "well" then some (Value.ref aW) else if y = Str.ofString "frame" then some (Value.ref x) else if y = Str.ofString "gas" then some (Value.int gA v1) else if y = Str.ofString "words" then some (Value.int n v2) else m₁ y
      rw [← m_four e1 e2 e3 e4 y]
    clear F3 N3 B X Tp hr hW hW1 hW2
    obtain ⟨XB, TB⟩ := HB
    have X1 := XB.keeps B1.stays
    have T1 := TB.keeps B1.stays
    have HB : Hide (_ ∧ _) := And.intro XB TB
    clear XB TB
    have hbs : ((zeros (32 * n).toNat).size : Int) = 32 * n := by rw [Array.size_replicate]; omega
    have off2 := allNe_of off
    clear off
    simp only [AllNe, and_true] at off2
    obtain ⟨i1, i2, i3, i4, i5, i6, i7⟩ := off2
    have hn3 : n < 2 ^ 300 := Int.lt_of_le_of_lt hn1 (by decide +kernel)
    generalize hz : zeros (32 * n).toNat = b at N hbs
    replace N := News.sub N (l' := (aW, oW3) :: (aC, oC) :: [(I, o), (x, instObj 287 dx), (dx, frmO w aMsg aSt aMem gA aJ tkm tgA), (aMem, instObj 210 dMem), (dMem, memO w aB n w1 w2 w3), (aB, baObj b)]) (by walk_at "mine mem")
    have hrW : ∀ p ∈ [(I, o), (x, instObj 287 dx), (dx, frmO w aMsg aSt aMem gA aJ tkm tgA), (aMem, instObj 210 dMem), (dMem, memO w aB n w1 w2 w3), (aB, baObj b)], p.1 ≠ aW := by k_all
    have hrC : ∀ p ∈ [(I, o), (x, instObj 287 dx), (dx, frmO w aMsg aSt aMem gA aJ tkm tgA), (aMem, instObj 210 dMem), (dMem, memO w aB n w1 w2 w3), (aB, baObj b)], p.1 ≠ aC := by k_all
    generalize hrest : [(I, o), (x, instObj 287 dx), (dx, frmO w aMsg aSt aMem gA aJ tkm tgA), (aMem, instObj 210 dMem), (dMem, memO w aB n w1 w2 w3), (aB, baObj b)] = rest at N hrW hrC
    (try dsimp only)
    with_reducible refine foldM F ?_
    clear F
    intro m0 F
    walk_at "mine foldS"
    with_reducible refine S_cons (wpS_any ?_)
    walk_at "mine stepsS"
    (try k_unfold)
    (try dsimp only)
    rename_i hA2 tkA2 way tw oW4 y0 y1 hW4 hB2 F4 N4
    (try dsimp only)
    with_reducible refine foldM F4 ?_
    clear F4
    intro mA F4
    refine S_cons (wpS_any (wpAny_mono (Q := fun f s' => Ended (f = Flow.next ∧ ∃ (place size : Int) (tp ts : Tok) (oW5 : Obj) (h' : Heap) (tk' : Nat), s' = { s with heap := h', toks := tk' } ∧ place < 2 ^ 256 ∧ size ≤ 70 ∧ WellO aC oW5 ∧ Fr g1 L h' (fun y => if y = Str.ofString "size" then some (Value.int size ts) else if y = Str.ofString "place" then some (Value.int place tp) else mA y) ∧ News g1 L h' ((aW, oW5) :: (aC, oC) :: rest))) ?c1 (fun f s' hf => ?_) (fun _ _ z => z)))
    case c1 =>
      walk_at "mine stepsS"
      all_goals (try k_unfold)
      all_goals (try dsimp only)
      · exact ⟨by first | rfl | trivial, 0, _, _, _, _, _, _, rfl, by decide +kernel, one_in (by assumption), by assumption, by assumption, News.sub (by assumption) (by walk_at "mine mem")⟩
      · (with_reducible rename SpanOk _ _ => hs)
        exact ⟨by first | rfl | trivial, _, _, _, _, _, _, _, rfl, hs.2.2.2.2, hs.2.2.1, by assumption, by assumption, News.sub (by assumption) (by walk_at "mine mem")⟩
    obtain ⟨rfl, place, size, tp, ts, oW5, h5, tk5, rfl, hp1, hs1, hW5, F5, N5⟩ := hf
    clear F4 N4
    (try dsimp only)
    with_reducible refine foldM F5 ?_
    clear F5
    intro mB F5
    try dsimp only
    have hf := fresh_in (way := way) hn0 hn1 hp1 hs1
    obtain ⟨hf0, hf1⟩ := hf
    refine S_cons (wpS_any (wpAny_mono (Q := fun f s' => Ended (f = Flow.next ∧ ∃ (tf : Tok) (h' : Heap) (tk' : Nat), s' = { s with heap := h', toks := tk' } ∧  Fr g1 L h' (fun y => if y = Str.ofString "fresh" then some (Value.int (freshW way n place size) tf) else mB y) ∧ News g1 L h' ((aW, oW5) :: (aC, oC) :: rest))) ?c2 (fun f s' hf => ?_) (fun _ _ z => z)))
    case c2 =>
      walk_at "mine stepsS"
      all_goals (try k_unfold)
      all_goals (try dsimp only)
      · (rename way = 0 => hw)
        exact ⟨by first | rfl | trivial, _, _, _, rfl, by rw [freshW0 hw]; assumption, News.sub (by assumption) (by walk_at "mine mem")⟩
      · (rename way ≠ 0 => hw)
        exact ⟨by first | rfl | trivial, _, _, _, rfl, by rw [freshW1 hw]; assumption, News.sub (by assumption) (by walk_at "mine mem")⟩
    obtain ⟨rfl, tf, h6, tk6, rfl, F6, N6⟩ := hf
    clear F5 N5
    (try dsimp only)
    with_reducible refine foldM F6 ?_
    clear F6
    intro mC F6
    try dsimp only
    refine S_cons (wpS_any (wpAny_mono (Q := fun f s' => Ended (f = Flow.next ∧ ∃ (tc : Tok) (h' : Heap) (tk' : Nat), s' = { s with heap := h', toks := tk' } ∧  Fr g1 L h' (fun y => if y = Str.ofString "cost" then some (Value.int (costW way n place size) tc) else mC y) ∧ News g1 L h' ((aW, oW5) :: (aC, oC) :: rest))) ?c3 (fun f s' hf => ?_) (fun _ _ z => z)))
    case c3 =>
      walk_at "mine stepsS"
      all_goals (try k_unfold)
      all_goals (try dsimp only)
      · (rename way = 0 => hw)
        exact ⟨by first | rfl | trivial, _, _, _, rfl, by rw [costW0 hw]; assumption, News.sub (by assumption) (by walk_at "mine mem")⟩
      · (rename way ≠ 0 => hw)
        exact ⟨by first | rfl | trivial, _, _, _, rfl, by rw [costW1 hw, ← freshW1 hw]; assumption, News.sub (by assumption) (by walk_at "mine mem")⟩
    obtain ⟨rfl, tc, h7, tk7, rfl, F7, N7⟩ := hf
    clear F6 N6
    (try dsimp only)
    with_reducible refine foldM F7 ?_
    clear F7
    intro mD F7
    try dsimp only
    refine S_cons (wpS_any (wpAny_mono (Q := fun f s' => Ended (f = Flow.next ∧ ∃ (due : Str) (td : Tok) (h' : Heap) (tk' : Nat), s' = { s with heap := h', toks := tk' } ∧ ((gA < costW way n place size ∧ due = "gas") ∨ (costW way n place size ≤ gA ∧ 131072 < freshW way n place size ∧ due = "memory") ∨ (costW way n place size ≤ gA ∧ freshW way n place size ≤ 131072 ∧ due = "")) ∧ Fr g1 L h' (fun y => if y = Str.ofString "due" then some (Value.str due td) else mD y) ∧ News g1 L h' ((aW, oW5) :: (aC, oC) :: rest))) ?c4 (fun f s' hf => ?_) (fun _ _ z => z)))
    case c4 =>
      walk_at "mine stepsS"
      all_goals (try k_unfold)
      all_goals (try dsimp only)
      · exact ⟨by first | rfl | trivial, _, _, _, _, rfl, .inl ⟨by omega, rfl⟩, by assumption, News.sub (by assumption) (by walk_at "mine mem")⟩
      · exact ⟨by first | rfl | trivial, _, _, _, _, rfl, .inr (.inl ⟨by omega, by omega, rfl⟩), by assumption, News.sub (by assumption) (by walk_at "mine mem")⟩
      · exact ⟨by first | rfl | trivial, _, _, _, _, rfl, .inr (.inr ⟨by omega, by omega, rfl⟩), by assumption, News.sub (by assumption) (by walk_at "mine mem")⟩
    obtain ⟨rfl, due, td, h8, tk8, rfl, hdue, F8, N8⟩ := hf
    clear F7 N7
    (try dsimp only)
    with_reducible refine foldM F8 ?_
    clear F8
    intro mE F8
    try dsimp only
    refine S_cons (S_If (S_cmp (S_Call1 (K := Mine.hd.heap_1 w.params) ?_)))
    walk_at "mine stepsS"
    obtain ⟨XB, TB⟩ := HB
    clear hrW hrC
    subst hrest
    refine' useTT (paid_spec w x dx aMsg aSt aMem aJ dMem aB gA n way place size b tkm _ _ _ _ _ _ _ x1 x2 x3 x4 x5 x6 x7 x8 x9 x10 hn0 hn1 hbs hp1 hs1) (Take.cons ?ta (Take.cons ?tb (Take.cons ?tc (Take.cons ?td (Take.cons ?te Take.nil))))) B1 ?kF ?kN X1 T1 XB TB rfl rfl ?kd ?ku ?kG ?_
    case kF => k_asm
    case kN => k_asm
    case ta => walk_at "mine take1"
    case tb => walk_at "mine take1"
    case tc => walk_at "mine take1"
    case td => walk_at "mine take1"
    case te => walk_at "mine take1"
    case kd => walk_at "mine num"
    case ku => walk_at "mine num"
    case kG => exact fun _ _ => trivial
    rintro v T' h9 tk9 g2 turn2 ok B2 F9 N9 d9 X2 T2
    have HB : Hide (_ ∧ _) := And.intro XB TB
    clear XB TB d9 B1 X1 T1 F8 N8
    have hT2 := hT.trans turn2
    clear hT turn2
    have hge := fresh_ge (way := way) (n := n) (place := place) (size := size)
    rcases ok with ⟨p1, ⟨ts2, rfl⟩, rfl⟩ | ⟨p1, p2, ⟨ts2, rfl⟩, tg3, rfl⟩ | ⟨p1, p2, ⟨ts2, rfl⟩, tg3, z1, z2, z3, rfl⟩
    · obtain rfl : due = Str.ofString "gas" := by
        rcases hdue with ⟨c1, rfl⟩ | ⟨c1, c2, rfl⟩ | ⟨c1, c2, rfl⟩
        · rfl
        all_goals (exfalso; omega)
      clear hdue
      try dsimp only [List.cons_append, List.nil_append] at N9
      try dsimp only
      try k_sweep
      try k_fold
      walk_at "mine stepsS"
      walk_at "mine nils"
      walk_at "mine next"
      walk_at "mine next"
      all_goals (try ((with_reducible rename _ ≠ _ => hx); exact absurd rfl hx))
      walk_at "mine next"
      walk_at "mine nils"
      try dsimp only
      exact ⟨_, _, g2, _, [(aW, oW5), (aC, oC), (x, instObj 287 dx), (dx, frmO w aMsg aSt aMem gA aJ tkm tgA), (aMem, instObj 210 dMem), (dMem, memO w aB n w1 w2 w3), (aB, baObj b)], rfl, hT2, by assumption, News.sub (by assumption) (by walk_at "mine mem"), by walk_at "mine ne all", B2, oW5, gA, n, tgA, _, _, w1, w2, w3, rfl, rfl, rfl, rfl, hW5, hn0, hn1, by rw [hz]⟩
    · obtain rfl : due = Str.ofString "memory" := by
        rcases hdue with ⟨c1, rfl⟩ | ⟨c1, c2, rfl⟩ | ⟨c1, c2, rfl⟩
        · exfalso; omega
        · rfl
        · exfalso; omega
      clear hdue
      try dsimp only [List.cons_append, List.nil_append] at N9
      try dsimp only
      try k_sweep
      try k_fold
      walk_at "mine stepsS"
      walk_at "mine nils"
      walk_at "mine next"
      walk_at "mine next"
      all_goals (try ((with_reducible rename _ ≠ _ => hx); exact absurd rfl hx))
      walk_at "mine next"
      walk_at "mine endT"
      exact ⟨[(aW, _), (aC, _)], ⟨rfl, _, hW5, rfl⟩, by walk_at "mine mem"⟩
    · obtain rfl : due = Str.ofString "" := by
        rcases hdue with ⟨c1, rfl⟩ | ⟨c1, c2, rfl⟩ | ⟨c1, c2, rfl⟩
        · exfalso; omega
        · exfalso; omega
        · rfl
      clear hdue
      try dsimp only [List.cons_append, List.nil_append] at N9
      try dsimp only
      try k_sweep
      try k_fold
      walk_at "mine stepsS"
      walk_at "mine nils"
      walk_at "mine next"
      walk_at "mine next"
      all_goals (try ((with_reducible rename _ ≠ _ => hx); exact absurd rfl hx))
      walk_at "mine next"
      walk_at "mine nils"
      try dsimp only
      exact ⟨_, _, g2, _, [(aW, oW5), (aC, oC), (x, instObj 287 dx), (dx, frmO w aMsg aSt aMem (gA - costW way n place size) aJ tkm tg3), (aMem, instObj 210 dMem), (dMem, memO w aB (freshW way n place size) z1 z2 z3), (aB, baObj (b ++ zeros (32 * (freshW way n place size - n)).toNat))], rfl, hT2, by assumption, News.sub (by assumption) (by walk_at "mine mem"), by walk_at "mine ne all", B2, oW5, gA - costW way n place size, freshW way n place size, tg3, _, _, z1, z2, z3, rfl, rfl, rfl, rfl, hW5, hf0, p2, by rw [← zeros_add hn0 hge, hz]⟩
theorem law_num {p r : Int} (h : p ∈ [(0 : Int), 1, 22, 31, 45, 63, 255, 511, 723, 1023, 65535, 131071, 2 ^ Int.toNat 32 - 1, 2 ^ Int.toNat 64, 2 ^ Int.toNat 255, 2 ^ Int.toNat 256 - 2]) (h0 : 0 ≤ r) (h1 : r < 3) : 0 ≤ p + r ∧ p + r < 2 ^ 300 := by
  have e : 0 ≤ p ∧ p < 2 ^ 300 - 3 := by
    simp only [List.mem_cons, List.not_mem_nil, or_false] at h
    rcases h with rfl | rfl | rfl | rfl | rfl | rfl | rfl | rfl | rfl | rfl | rfl | rfl | rfl | rfl | rfl | rfl <;> decide +kernel
  generalize (2 : Int) ^ 300 = z at *
  omega
theorem law_last {r : Int} (h : r < 2000) : r < 2 ^ 300 := Int.lt_trans h (by decide +kernel)
theorem words_48 : True := by
  k_with "call ref" => ( k_here; (with_reducible show wpAny _ _ (PySem.call (Value.ref 348) _ _) _ _ _); k_dflt ( refine' useT (costs_spec _ _ _ ?w86s1 ?w86s2) Take.nil ?kB ?kF ?kN ?kX ?kT ?khf ?khk ?kd ?ku ?kG ?_ ?kE; (case w86s1 => first | assumption | exact (law_num (by assumption) (by assumption) (by assumption)).1); (case w86s2 => first | exact law_last (by assumption) | exact (law_num (by assumption) (by assumption) (by assumption)).2); walk_at "mine pure"; k_whole); intro zqv' zqT' zqh' zqtk' zqok zqF' zqN' zqd1 zqd2; (obtain ⟨zqe1, zqe2⟩ := zqok); (subst zqe1); (subst zqe2); (clear zqd1 zqd2); (try dsimp only [List.cons_append, List.nil_append] at zqN'); (revert zqh' zqtk' zqF' zqN'); intros; (try dsimp only); (try k_sweep); (try k_fold))
  trivial
set_option maxHeartbeats 8000000 in
theorem law_spec (w : World) (aS : Addr) (vs : List Value) (ns : List Int) (hi : IntsAre vs ns) (hl : ns.length ≤ 63) :
    TSpec w 120 405 [.ref aS] [] (fun g => g.IsList aS vs.toArray) (fun v T' => v = .bool true ∧ T' = []) := by
  unfold TSpec
  k_fill
  intro dp un gd outer base g mean mg mb s R B hst hsz hN X Tp XB TB hd hu hG hok
  have hb : Binds [(Str.ofString "script", .ref aS)] := .mk
  have HB : Hide (_ ∧ _) := And.intro XB TB
  clear XB TB
  walk_at "mine enterT"
  rename_i L hL FL NL lL
  have hG2 : hL.IsList aS vs.toArray := ⟨_, FL.keep _ _ hG.choose_spec.1, hG.choose_spec.2⟩
  with_reducible refine S_cons (wpS_any ?_)
  walk_at "mine stepsS"
  rename_i D1 ws hA hI hC0 hL0 l1 k1 k2 gg hY hYL aC hB tkB o1 aW hC l2 hD F1 N1
  have hCell : CellsO (LCg.lst ys) := ⟨ys, _, _, rfl, hY, by rw [List.length_map, List.length_take]; omega⟩
  have hWell : WellO aC (W.listOf #[Value.ref aC, Value.int 0 tkB, Value.int 31 (tkB + 1)] 0) := ⟨0, 31, _, _, _, by decide, rfl⟩
  have nWC : @Ne Nat aW aC := by omega
  have N2 := News.sub N1 (l' := [(aW, W.listOf #[Value.ref aC, Value.int 0 tkB, Value.int 31 (tkB + 1)] 0), (aC, LCg.lst ys)]) (by walk_at "mine mem")
  clear N1
  refine S_cons (S_If (S_or (S_isTrue_not (S_plain (S_Call1 (K := Mine.hd.heap_1 w.params) ?_)))))
  walk_at "mine stepsS"
  obtain ⟨XB, TB⟩ := HB
  refine' useTT (frameright_spec w aW aC _ _ hWell hCell nWC) (Take.cons ?ta (Take.cons ?tb Take.nil)) B ?kF ?kN X Tp XB TB rfl rfl ?kd ?ku ?kG ?_
  case kF => k_asm
  case kN => k_asm
  case ta => walk_at "mine take1"
  case tb => walk_at "mine take1"
  case kd => walk_at "mine num"
  case ku => walk_at "mine num"
  case kG => exact fun _ _ => trivial
  rintro v T' h6 tk6 g2 turn2 ⟨rfl, oW2, hW2, rfl⟩ B2 F3 N3 d2 X2 T2
  clear d2 B X Tp F1 N2
  try dsimp only [List.cons_append, List.nil_append] at N3
  try dsimp only
  have HB : Hide (_ ∧ _) := And.intro XB TB
  clear XB TB
  walk_at "mine stepsS"
  refine S_or (S_isTrue_not (S_plain (S_Call1 (K := Mine.hd.heap_1 w.params) ?_)))
  walk_at "mine stepsS"
  obtain ⟨XB, TB⟩ := HB
  refine' useTT (memright_spec w aW aC _ _ hW2 hCell nWC) (Take.cons ?ta (Take.cons ?tb Take.nil)) B2 ?kF ?kN X2 T2 XB TB rfl rfl ?kd ?ku ?kG ?_
  case kF => k_asm
  case kN => k_asm
  case ta => walk_at "mine take1"
  case tb => walk_at "mine take1"
  case kd => walk_at "mine num"
  case ku => walk_at "mine num"
  case kG => exact fun _ _ => trivial
  rintro v T' h7 tk7 g3 turn3 ⟨rfl, oW3, hW3, rfl⟩ B3 F4 N4 d3 X3 T3
  clear d3 B2 X2 T2 F3 N3
  try dsimp only [List.cons_append, List.nil_append] at N4
  try dsimp only
  have hT := turn2.trans turn3
  clear turn2 turn3 XB TB hW2 hWell
  walk_at "mine stepsS"
  refine S_or_nil ?_
  show (if false = true then _ else _)
  rw [if_neg Bool.false_ne_true]
  walk_at "mine nils"
  try dsimp only
  refine S_cons (S_For ?_)
  walk_at "mine stepsS"
  (with_reducible rename IsRange _ _ _ _ _ _ _ _ => hr)
  (with_reducible rename Fr _ _ _ _ => F5)
  (with_reducible rename News _ _ _ _ => N5)
  refine' S_rangeK (n := 3) (news := [(aW, oW3), (aC, LCg.lst ys)]) (fun i n₁ => ∃ oW', n₁ = [(aW, oW'), (aC, LCg.lst ys)] ∧ WellO aC oW') rfl ?kE hr ?ks ?kn rfl rfl F5 (News.sub N5 ?kp) ?kj ?kt ?kd
  case kE => passes_own
  case ks => first | decide | exact smallR (by omega) (by omega)
  case kn => first | decide | exact sizeR (by omega)
  case kp => walk_at "mine mem"
  case kj => exact ⟨_, rfl, hW3⟩
  case kd =>
    rintro m₁ n₁ h tk hm ⟨oW4, rfl, hW4⟩ F N
    have ew : m₁ (Str.ofString "well") = some (Value.ref aW) := (hm _ (by decide)).trans rfl
    replace F := Fr.to F (m_one ew)
    clear hm F5 N5 hW3
    walk_at "mine next"
    walk_at "mine endT"
    exact ⟨[], ⟨rfl, rfl⟩, fun _ hp => nomatch hp⟩
  case kt =>
    rintro i t n₁ h tk I o hi ⟨oW4, rfl, hW4⟩ off F N
    have off2 := allNe_of off
    clear off F5 N5 hW3
    simp only [AllNe, and_true] at off2
    obtain ⟨i1, i2⟩ := off2
    walk_at "mine next"
    walk_at "mine nils"
    try dsimp only
    exact ⟨_, _, _, [(aW, _), (aC, LCg.lst ys)], rfl, by assumption, News.sub (by assumption) (by walk_at "mine mem"), by walk_at "mine ne all", fun y hy => if_neg hy, _, rfl, by assumption⟩

end Mine
set_option maxHeartbeats 8000000 in
theorem PySem.Challenge.cw_pq0393_01_holds : PySem.Challenge.rw_pq0393_01.Holds := by
  refine Mine.hd ?_
  k_fill
  intro w s₀ s₁ mg mb G Y fa o pm cd doc dV kV ho hdt hcd hD hmg hg args vals as hpre hlay hrd hwl hlo
  have KX := kIn_of Y
  have T := G.T
  have efa : mg (Str.ofString "law") = some (Value.ref 405) := mg_of KX T.g (by k_is)
  have e2 : fa = 405 := by
    have e := hmg.symm.trans efa
    cases e
    rfl
  clear ho hdt hcd hD hmg efa
  subst e2
  wrow_args hpre hlay hrd hwl hlo
  (rename IntsAre _ _ => hI)
  (rename Heap.IsList _ _ _ => hL)
  refine Mine.wpS_call (Mine.law_spec w _ _ _ hI (by omega) (1 + claimMargin) 4 (some []) [] s₁.heap s₁.heap _ mg mb s₁ _ (below_caller _) (fun _ _ e => e) rfl (fun _ hp => nomatch hp) KX T KX T (by decide) (by decide) hL ?_)
  rintro v T' h' tk' g' turn ⟨rfl, rfl⟩ st nt
  have keep : ∀ b o, s₁.heap.get? b = some o → h'.get? b = some o := fun b o e => st b o (turn.other b o e (fun hm => nomatch hm))
  show GoodWG _ _ _ _ _ _ _
  refine GoodW.toG ⟨.inl ⟨.bool true, .bool true, [], rfl, raisesW_false ?_, .bool true, ?_, unshared_nil⟩, keep, rfl, hg⟩
  · wrow_none_raised
  · wrow_post
