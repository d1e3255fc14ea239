import PyProof.Rows.All
import Wide.All
import OpenK.AllK
import Wide.FinOn
import PySem.Challenge.RW_pb0086_01
open PySem PySem.W PyProof.Rows
set_option Elab.async false
set_option maxRecDepth 100000
set_option linter.unusedSectionVars false
set_option linter.unusedVariables false
set_option linter.unusedSimpArgs false
namespace Mine
/-! contexts without a frame of a decoder -/
def okCode : Code → Bool
  | .builtin id _ => !Builtin.Bytes.decodersThatHold.contains id
  | _ => true
def okBelow (l : List (Code × Pos)) : Bool := l.all fun x => okCode x.1
def okCtx (Γ : Ctx) : Prop := okCode Γ.code = true ∧ okBelow Γ.below = true
def wpR {α : Type} (M : Model) (A : Around) (t : Sem α) (Q : α → Shared → Prop) (E : Value → Shared → Prop) (s : Shared) : Prop :=
  ∀ Γ p, Γ.In A → okCtx Γ → Sem.wp M Γ t (fun a _ s' => Q a s') (fun e _ s' => E e s') p s
def codeR (M : Model) (A : Around) (c : Code) (R : Result → Shared → Prop) (s : Shared) : Prop :=
  ∀ Γ p, Γ.code = c → Γ.Below A → okCtx Γ → wpCode M Γ R p s
section
variable {α β : Type} {M : Model} {A : Around} {E : Value → Shared → Prop} {s : Shared}
theorem wpR_of {t : Sem α} {Q : α → Shared → Prop} (h : wpAny M A t Q E s) : wpR M A t Q E s := fun Γ p hΓ _ => h Γ p hΓ
theorem codeR_of {c : Code} {R : Result → Shared → Prop} (h : codeAny M A c R s) : codeR M A c R s := fun Γ p hc hΓ _ => h Γ p hc hΓ
theorem wpR_mono {t : Sem α} {Q Q' : α → Shared → Prop} {E' : Value → Shared → Prop} (h : wpR M A t Q E s) (hQ : ∀ a s, Q a s → Q' a s) (hE : ∀ e s, E e s → E' e s) : wpR M A t Q' E' s :=
  fun Γ p hΓ ho => Sem.wp_mono M Γ t (fun a _ s => hQ a s) (fun e _ s => hE e s) p s (h Γ p hΓ ho)
theorem wpR_bind {m : Sem α} {f : α → Sem β} {Q : β → Shared → Prop} (h : wpR M A m (fun a s' => wpR M A (f a) Q E s') E s) : wpR M A (m >>= f) Q E s := fun Γ p hΓ ho => by
  rw [Sem.wp_bind']
  exact Sem.wp_mono M Γ m (fun a p' s' h' => h' Γ p' hΓ ho) (fun _ _ _ h' => h') p s (h Γ p hΓ ho)
theorem wpR_bindA {m : Sem α} {f : α → Sem β} {Q : β → Shared → Prop} (h : wpAny M A m (fun a s' => wpR M A (f a) Q E s') E s) : wpR M A (m >>= f) Q E s := wpR_bind (wpR_of h)
theorem wpR_holding {vs : List Value} {m : Sem α} {Q : α → Shared → Prop} (h : wpR M A m Q E s) : wpR M A (holding vs m) Q E s :=
  fun Γ p hΓ ho => by rw [Sem.wp_holding]; exact h Γ p hΓ ho
theorem okCtx_goto {Γ : Ctx} {c : Code} (h : okCtx Γ) (hc : okCode c = true) : okCtx (Γ.goto c) := ⟨hc, h.2⟩
theorem codeR_of_tree {c : Code} {R : Result → Shared → Prop}
    (h : wpR M (A.under c) (M.den c) (fun fin s' => match fin with | .done f => R (.ok f) s' | .again c' => c'.quiet = true ∧ okCode c' = true ∧ codeR M A c' R s') (fun e s' => R (.error e) s') s) : codeR M A c R s := fun Γ p hc hΓ ho => by
  rw [wpCode_iff_wp, hc]
  refine Sem.wp_mono M Γ _ (fun fin p' s' h' => ?_) (fun _ _ _ h' => h') p s (h Γ p (hc ▸ hΓ.in) ho)
  cases fin with
  | done f => exact h'
  | again c' => exact ⟨h'.1, h'.2.2 (Γ.goto c') p' rfl (hΓ.goto c') (okCtx_goto ho h'.2.1)⟩
theorem okCtx_enter {Γ : Ctx} {c : Code} {h : Option Value} {p : Pos} (ho : okCtx Γ) (hc : okCode c = true) : okCtx (Γ.enter c h p) := by
  refine ⟨hc, ?_⟩
  show (okCode Γ.code && okBelow Γ.below) = true
  rw [ho.1, ho.2]; rfl
theorem wpR_runValue {c : Code} {Q : Value → Shared → Prop} (hok : okCode c = true)
    (hc : codeR M A c (fun r s' => match r with | .ok (.ret v) => Q v s' | .ok _ => False | .error e => E e s') s) :
    wpR M A (runValue c) Q E s := fun Γ p hΓ ho => by rw [Sem.wp_runValue]; exact hc _ p rfl (hΓ.enter c none p (by intro x; cases x)) (okCtx_enter ho hok)
theorem wpR_call {f : Value} {pos : List Value} {kw : List (Str × Value)} {Q : Value → Shared → Prop}
    (hc : codeR M A (.call f ⟨pos, kw⟩) (fun r s' => match r with | .ok (.ret v) => Q v s' | .ok _ => False | .error e => E e s') s) :
    wpR M A (call f pos kw) Q E s := wpR_runValue rfl hc
theorem codeR_mono {c : Code} {R R' : Result → Shared → Prop} (h : codeR M A c R s) (hR : ∀ r s, R r s → R' r s) : codeR M A c R' s :=
  fun Γ p hc hΓ ho => wpCode_mono hR (h Γ p hc hΓ ho)
theorem mem_ok {Γ : Ctx} {p : Pos} (ho : okCtx Γ) {x : Code × Pos} (hx : x ∈ (Γ.code, p) :: Γ.below) : okCode x.1 = true := by
  rcases List.mem_cons.mp hx with rfl | hx
  · exact ho.1
  · exact List.all_eq_true.mp ho.2 x hx
theorem mem_calm {Γ : Ctx} {p : Pos} (hΓ : Γ.In A) (hg : A.guards = some []) {x : Code × Pos} (hx : x ∈ (Γ.code, p) :: Γ.below) : x.1.isGuard = false := by
  have h1 := hΓ.2.2.2.1 [] hg
  rw [← guardsOf_cons Γ.code p] at h1
  cases hx' : x.1.isGuard with
  | false => rfl
  | true =>
    have : x.1 ∈ guardsOf ((Γ.code, p) :: Γ.below) := List.mem_filter.mpr ⟨List.mem_map.mpr ⟨x, hx, rfl⟩, hx'⟩
    rw [h1] at this; cases this
/-- the stack holds no decoder: so nothing exports a byte array -/
theorem wpR_exported {self : Value} {Q : Bool → Shared → Prop} (hg : A.guards = some []) (h : Q false s) : wpR M A (Builtin.Bytes.exported self) Q E s := fun Γ p hΓ ho => by
  unfold Builtin.Bytes.exported
  show Q (List.any ((Γ.code, p) :: Γ.below) _) s
  rw [List.any_eq_false.mpr (fun x hx => ?_)]
  · exact h
  · have hok := mem_ok ho hx
    have hng := mem_calm hΓ hg hx
    obtain ⟨c, q⟩ := x
    dsimp only at hok hng
    cases c with
    | builtin id args =>
      have hid : ∀ x, guardIds.contains x = true → id ≠ x := fun x hx e => by
        rw [← e] at hx
        exact absurd (hx.symm.trans hng) (by decide)
      have h1 := hid "bytearray.__contains__" (by decide)
      have h2 := hid "bytearray.__mod__" (by decide)
      have h3 := hid "bytearray.__rmod__" (by decide)
      have h4 := hid "_struct.pack_into.held" (by decide)
      have h5 := hid "bytearray.find.held" (by decide)
      delta PySem.Builtin.Bytes.exported.match_1
      change ¬ (dite (id = "bytearray.__contains__") _ _ = true)
      rw [dif_neg h1, dif_neg h2, dif_neg h3, dif_neg h4, dif_neg h5]
      obtain ⟨pos, kw⟩ := args
      cases pos with
      | nil => exact Bool.false_ne_true
      | cons v tl =>
        show ¬ ((Builtin.Bytes.sameRef v self && Builtin.Bytes.decodersThatHold.contains id) = true)
        have hok' : Builtin.Bytes.decodersThatHold.contains id = false := by
          have hok' : (!Builtin.Bytes.decodersThatHold.contains id) = true := hok
          cases hc : Builtin.Bytes.decodersThatHold.contains id with
          | false => rfl
          | true => rw [hc] at hok'; exact nomatch hok'
        rw [hok', Bool.and_false]; exact Bool.false_ne_true
    | _ => exact Bool.false_ne_true
end
end Mine
namespace Mine
open PySem.Calls
/-! a law may be called where no decoder is at work: the stub that asks first -/
def runC (f : Value) (vs : List Value) : Sem Value := .stack fun st => if okBelow st then PySem.call f vs else .pure (.bool true)
def treeOf (name : Str) (vs : List Value) : Sem Fin := do
  match ← nsGet mainNs name with
  | some f => do ret (← PySem.call f vs)
  | none => unsupported "claim.caller:no-such-global"
def treeC (name : Str) (vs : List Value) : Sem Fin := .stack fun st => if okBelow st then treeOf name vs else .pure (.done (.ret (.bool true)))
section
variable {M : Model} {A : Around} {E : Value → Shared → Prop} {s : Shared} {Q : Value → Shared → Prop}
theorem wpAny_runC {f : Value} {vs : List Value} (h : wpR M A (PySem.call f vs) Q E s) (hb : Q (.bool true) s) : wpAny M A (runC f vs) Q E s := by
  intro Γ p hΓ
  show Sem.wp M Γ (if okBelow ((Γ.code, p) :: Γ.below) then PySem.call f vs else .pure (.bool true)) _ _ _ _
  cases hk : okBelow ((Γ.code, p) :: Γ.below) with
  | true => exact h Γ p hΓ (by have := hk; rw [okBelow, List.all_cons, Bool.and_eq_true] at this; exact this)
  | false => exact hb
theorem wpR_of_runC {f : Value} {vs : List Value} (h : wpAny M A (runC f vs) Q E s) : wpR M A (PySem.call f vs) Q E s := by
  intro Γ p hΓ ho
  have h' : Sem.wp M Γ (if okBelow ((Γ.code, p) :: Γ.below) then PySem.call f vs else .pure (.bool true)) _ _ p s := h Γ p hΓ
  rw [if_pos (by rw [okBelow, List.all_cons, Bool.and_eq_true]; exact ho)] at h'
  exact h'
theorem treeC_of {prog : Program} {w : World} {name : Str} {mg : Str → Option Value} {f : Value} {vs : List Value} {Q : Fin → Shared → Prop} (hg : s.heap.Ns mainGlobals mg) (hf : mg name = some f)
    (h : wpAny (model prog w) A (runC f vs) (fun v s' => Q (.done (.ret v)) s') E s) : wpAny (model prog w) A (treeC name vs) Q E s := by
  have hR := wpR_of_runC h
  have hT : wpR (model prog w) A (treeOf name vs) Q E s := by
    unfold treeOf
    refine wpR_bindA (wpAny_nsGet hg ?_)
    rw [hf]
    exact wpR_bind (wpR_mono hR (fun _ _ x => wpR_of (wpAny_pure x)) fun _ _ x => x)
  intro Γ p hΓ
  have h' : Sem.wp (model prog w) Γ (if okBelow ((Γ.code, p) :: Γ.below) then PySem.call f vs else .pure (.bool true)) _ _ p s := h Γ p hΓ
  show Sem.wp _ Γ (if okBelow ((Γ.code, p) :: Γ.below) then treeOf name vs else .pure (.done (.ret (.bool true)))) _ _ _ _
  cases hk : okBelow ((Γ.code, p) :: Γ.below) with
  | true => exact hT Γ p hΓ (by have := hk; rw [okBelow, List.all_cons, Bool.and_eq_true] at this; exact this)
  | false => rw [hk] at h'; exact h'
end
theorem sched_unstub {prog : Program} {w : World} {name : Str} {vs : List Value} {s s' : Shared} {o : Outcome} {n : Nat} (hz : s.asleep)
    (h : schedN (denote table) prog w n (.single s ⟨treeC name vs, .builtin "claim.caller" {}, default, []⟩) = .halted o s') :
    ∃ n', schedN (denote table) prog w n' (.single s ⟨treeOf name vs, .builtin "claim.caller" {}, default, []⟩) = .halted o s' := by
  cases n with
  | zero => cases h
  | succ n =>
    have hst : step (denote table) prog w s ⟨treeC name vs, .builtin "claim.caller" {}, default, []⟩ = .go s ⟨treeOf name vs, .builtin "claim.caller" {}, default, []⟩ := by
      obtain ⟨heap, gens, drawn, toks, os⟩ := s
      rfl
    have hc : (⟨treeC name vs, .builtin "claim.caller" {}, default, []⟩ : Thread).calm = true := rfl
    rcases sstep_single (denote table) prog w s _ hc hz with e | e
    · rw [schedN, e, hst] at h
      exact ⟨n, h⟩
    · rw [hst] at e; cases e
theorem unstub {c : ClaimW} {name : Str} {defs keeps : List Str} {writes : Bool} (H : c.HoldsOpenBy (fun vs => ⟨treeC name vs, .builtin "claim.caller" {}, default, []⟩) defs keeps writes) :
    c.HoldsOpenBy (fun vs => ⟨treeOf name vs, .builtin "claim.caller" {}, default, []⟩) defs keeps writes := by
  obtain ⟨h1, h2, h3⟩ := H
  refine ⟨h1, h2, fun w => ⟨(h3 w).1, fun s hs => ?_⟩⟩
  obtain ⟨s₀, hf, hg, s₁, hT, hd, hr, hu, hc⟩ := (h3 w).2 s hs
  refine ⟨s₀, hf, hg, s₁, hT, hd, hr, hu, fun args hp hl ord ho => ?_⟩
  obtain ⟨vs, s₂, hlaid, n, o, s', hs', rest⟩ := hc args hp hl ord ho
  have A : AfterImport (opening c.prog) w s := hs
  have z : s₂.asleep := Shared.asleep_of_life ((layAllW_rest _ _ _ hlaid).2.2.2.trans (hT.2.1.trans (fence_lifeW hf))) A.life
  obtain ⟨n', h'⟩ := sched_unstub z hs'
  exact ⟨vs, s₂, hlaid, n', o, s', h', rest⟩
end Mine
namespace Mine
/-- the same, under another name: the head is then shown at once, not in pieces -/
abbrev LeftM (p q : Program) (loose : List Str) (Xt : Shared → Bool) {α : Type} (Yf : Shared → α) (Ya : World → α) (N : Nat) : Prop := LeftO p q loose Xt Yf Ya N
/-- the head of a law that is walked with the stub that asks first; it bears the name by which k_head seeks its head, under this namespace -/
theorem PySem.W.holds_open {r : OpenRow} {q : Program} {loose : List Str} {Xt : Shared → Bool} {XP : (Str → Option Value) → Heap → Prop} {α : Type} {Yf : Shared → α} {Ya : World → α} {YP : World → Heap → Prop} {d : DefRec} {kwd : List (Str × Expr)} {N : Nat}
    (left : LeftM r.prog q loose Xt Yf Ya N) (hY : ∀ w s, Yf s = Ya w → YP w s.heap) (hYk : ∀ w h h', YP w h → (∀ b o, h.get? b = some o → h'.get? b = some o) → YP w h')
    (hX : ∀ s, Xt s = true → XP (s.heap.nsMap mainGlobals) s.heap) (hXk : ∀ mg h h', XP mg h → (∀ b o, h.get? b = some o → h'.get? b = some o) → XP mg h')
    (hdef : defOf q r.name = some (d, kwd)) (hp : r.prog.theDef r.name = some (d.params, d.body, d.scope)) (hk : kwWritten? d.params.kwonlyargs d.params.kw_defaults = some kwd)
    (hRf : ∀ s, Xt s = true → RecFacts r.records s.heap) (hwr : (!r.writes || r.records.isEmpty) = true) (k1 : r.wellSaid = true) (ok : (chainsOk q && opensWell r.prog && (frees r.toRowW && r.within.isEmpty)) = true) (hb : r.prog.bare) (hw : r.toRowW.promised)
    (call : WalkO q loose XP YP r.toRowW d kwd runC) : r.Holds := by
  refine ⟨k1, hw, unstub (open_anyG (r := r.toRowW) (run := runC) (tree := treeC r.name) left hY hYk hX hXk hRf hwr ok hb hw (fun vs w s mg f Q E hg hf h => treeC_of hg hf h) (fun w s hg G n hn => ?_) fun w s₀ s₁ mg mb G Y args vs as hpre hlay L low => ?_)⟩
  · have e : n = r.name := by
      split at hn
      · exact List.mem_singleton.mp hn
      · exact nomatch hn
    rw [e]
    exact pinned_of_view hg G hdef hp hk
  · have e := defOf_name hdef
    obtain ⟨a, o, pm, cd, doc, dV, kV, h1, h2, h3, h4, h5⟩ := G.fn hdef
    exact ⟨.ref a, h1, call w s₀ s₁ mg mb G Y a o pm cd doc dV kV h2 h3 h4 h5 (e ▸ h1) L.gens args vs as hpre hlay L.reads L.well (L.low low)⟩
set_option maxRecDepth 100000 in
set_option maxHeartbeats 8000000 in
open_top hd for PySem.Challenge.rw_pb0086_01
end Mine
namespace Mine
/-- a part of the walk that is proved later -/
structure Later (P : Prop) : Prop where
  out : P
end Mine
namespace Mine
def InvEndF (h₀ : Heap) (L I : Addr) (J : (Str → Option Value) → List (Addr × Obj) → Prop) (own : List (Addr × Obj)) (s₁ s₂ : Shared) : Prop :=
  ∃ h' tk m' news' nx, s₂ = { s₁ with heap := h', toks := tk } ∧ Fr h₀ L h' m' ∧ News h₀ L h' news' ∧ (∀ p ∈ nx, p ∈ news') ∧ (∀ p ∈ own, p ∈ news') ∧ (∀ p ∈ nx, p.1 ≠ I) ∧ J m' nx
def InvPostF (h₀ : Heap) (L I : Addr) (J : (Str → Option Value) → List (Addr × Obj) → Prop) (own : List (Addr × Obj)) (s₁ : Shared) (Q : Flow → Shared → Prop) (f : Flow) (s₂ : Shared) : Prop :=
  match f with
  | .ret v => Q (.ret v) s₂
  | .brk => Q .next s₂
  | _ => InvEndF h₀ L I J own s₁ s₂
theorem InvEndF.intro {h₀ : Heap} {L I : Addr} {J : (Str → Option Value) → List (Addr × Obj) → Prop} {m' : Str → Option Value} {own news' : List (Addr × Obj)} {s₁ : Shared} {h' : Heap} {tk : Nat} (F : Fr h₀ L h' m') (N : News h₀ L h' news')
    (nx : List (Addr × Obj)) (hn : ∀ p ∈ nx, p ∈ news') (ho : ∀ p ∈ own, p ∈ news') (hI : ∀ p ∈ nx, p.1 ≠ I) (hj : J m' nx) : InvEndF h₀ L I J own s₁ { s₁ with heap := h', toks := tk } := ⟨h', tk, m', news', nx, rfl, F, N, hn, ho, hI, hj⟩
section
variable {prog : Program} {w : World} {A : Around} {E : Value → Shared → Prop} {s : Shared} {env : Env} {h₀ : Heap} {x : Str} {body : List Stmt} {Q : Flow → Shared → Prop}
theorem loop_free {I : Addr} {fp : List Addr} {n : Nat} {P : Nat → Value → Prop} {St : Nat → Heap → Prop} {m₀ : Str → Option Value} {news : List (Addr × Obj)} (J : Nat → (Str → Option Value) → List (Addr × Obj) → Prop)
    (W : Walks prog w A I fp [I] n P St) (hlive : ∀ i h, St i h → ∃ o, h.get? I = some o) (hLf : env.locals ∉ fp) (hI0 : h₀.get? I = none) (hnw : ∀ p ∈ news, p.1 ≠ I) (hst : St 0 s.heap)
    (F : Fr h₀ env.locals s.heap m₀) (N : News h₀ env.locals s.heap news) (hj : J 0 m₀ news)
    (turn : ∀ i v m₁ nx h tk own oI, i < n → P i v → (I, oI) ∈ own → (∀ p ∈ own, p.1 ∈ fp) → (∀ p ∈ nx, p.1 ≠ I) → J i m₁ nx → Fr h₀ env.locals h (fun y => if y = x then some v else m₁ y) → News h₀ env.locals h (nx ++ own) →
      wpAny (model prog w) A (execs body env) (InvPostF h₀ env.locals I (J (i + 1)) own { s with heap := h, toks := tk } Q) E { s with heap := h, toks := tk })
    (done : ∀ m₁ nx h tk, J n m₁ nx → Fr h₀ env.locals h m₁ → News h₀ env.locals h nx → Q .next { s with heap := h, toks := tk }) :
    LoopAtV prog w A h₀ env x body Q E (.ref I) s := by
  refine ⟨I, fp, [I], n, P, St, m₀, news, J, rfl, W, hLf, ?_, ?_, hst, F, N, hj, ?_, ?_⟩
  · intro b hb; rw [List.mem_singleton.mp hb]; exact hI0
  · intro p hp hm; exact hnw p hp (List.mem_singleton.mp hm)
  · rintro i v m₁ nx s₁ own ⟨hh', tk', rfl⟩ hin hP hJ hoff hown hget hfp hSt F₁ N₁
    obtain ⟨oI, hoI⟩ := hlive _ _ hSt
    have hmem : (I, oI) ∈ own := hfp I (W.sub I (List.mem_singleton.mpr rfl)) hI0 oI hoI
    have N₂ : News h₀ env.locals hh' (nx ++ own) := fun p hp => N₁ p ((List.mem_append.mp hp).elim (fun h => List.mem_append.mpr (.inr h)) fun h => List.mem_append.mpr (.inl h))
    refine wpAny_mono (turn i v m₁ nx hh' tk' own oI hin hP hmem hown (fun p hp e => hoff p hp (by rw [e]; exact List.mem_singleton.mpr rfl)) hJ F₁ N₂) (fun f s₂ p => ?_) fun _ _ e => e
    have fin : InvEndF h₀ env.locals I (J (i + 1)) own { s with heap := hh', toks := tk' } s₂ → LoopStepU h₀ env.locals [I] own (J (i + 1)) { s with heap := hh', toks := tk' } .next s₂ := by
      rintro ⟨h', tk, m', news', nx', e, F', N', hn, ho, ha, hm⟩
      exact ⟨rfl, h', tk, m', nx', e, F', fun p hp => N' p ((List.mem_append.mp hp).elim (ho p) (hn p)), fun p hp hq => ha p hp (List.mem_singleton.mp hq), hm⟩
    cases f with
    | ret v => exact .ret p
    | brk => exact .brk p
    | next => exact .next (fin p)
    | cont => exact .cont (fin p)
  · rintro h' tk m' news' F' N' _ hJ
    exact done m' news' h' tk hJ F' N'
theorem iter_listF {l : Addr} {vs : List Value} {ns : List Int} {nn : Nat} {m₀ : Str → Option Value} {news : List (Addr × Obj)} (J : Nat → (Str → Option Value) → List (Addr × Obj) → Prop)
    (hh : A.handled = none) (hl : (l, listOf vs.toArray nn) ∈ news) (hi : IntsAre vs ns) (F : Fr h₀ env.locals s.heap m₀) (N : News h₀ env.locals s.heap news) (hj : J 0 m₀ news)
    (turn : ∀ I i k t m₁ nx h tk own oI, ns[i]? = some k → (I, oI) ∈ own → (∀ p ∈ own, p.1 ∈ [I, l]) → (∀ p ∈ nx, p.1 ≠ I) → J i m₁ nx → Fr h₀ env.locals h (fun y => if y = x then some (.int k t) else m₁ y) → News h₀ env.locals h (nx ++ own) →
      wpAny (model prog w) A (execs body env) (InvPostF h₀ env.locals I (J (i + 1)) own { s with heap := h, toks := tk } Q) E { s with heap := h, toks := tk })
    (done : ∀ m₁ nx h tk, J ns.length m₁ nx → Fr h₀ env.locals h m₁ → News h₀ env.locals h nx → Q .next { s with heap := h, toks := tk }) :
    wpAny (model prog w) A (pyIter (.ref l)) (fun it s₂ => LoopAtV prog w A h₀ env x body Q E it s₂) E s := by
  have hol : s.heap.get? l = some (listOf vs.toArray nn) := (N _ hl).1
  have hls : s.heap.IsList l vs.toArray := ⟨_, hol, rfl, nn, rfl⟩
  have hne : l ≠ s.heap.objs.size := Nat.ne_of_lt (Heap.lt_size hol)
  refine wpAny_pyIter_list hls ?_
  have W := Walks.list (prog := prog) (w := w) hh s.heap.objs.size l hne vs.toArray
  have hlen : vs.toArray.size = ns.length := by simp [hi.length]
  rw [hlen] at W
  refine loop_free J W ?_ ?_ (next_is_new F) ?_ ⟨⟨_, Heap.get?_push_size _ rfl, rfl, rfl⟩, hls.at fun o e => Heap.get?_push_of_some _ e⟩ (F.push _) (fun p hp => ⟨Heap.get?_push_of_some _ (N p hp).1, (N p hp).2⟩) hj ?_ ?_
  · rintro i h ⟨⟨o, ho, _⟩, _⟩; exact ⟨o, ho⟩
  · intro hm
    rcases List.mem_cons.mp hm with e | hm
    · exact absurd F.ns.lt (e ▸ Nat.lt_irrefl _)
    · exact (N _ hl).2.1 ((List.mem_singleton.mp hm).symm)
  · intro p hp hI
    exact absurd (Heap.lt_size (N p hp).1) (hI ▸ Nat.lt_irrefl _)
  · rintro i v m₁ nx h tk own oI hin hP hm hfp hn hJ F₁ N₁
    obtain ⟨t, hx⟩ := hi.get i ns[i] (by simp [hin])
    have hv : v = .int ns[i] t := by
      have hP' : vs[i]? = some v := by simpa using hP
      rw [hx] at hP'; exact (Option.some.inj hP').symm
    subst hv
    exact turn _ i ns[i] t m₁ nx h tk own oI (by simp [hin]) hm hfp hn hJ F₁ N₁
  · exact done
theorem iter_rangeF {r : Addr} {a₀ b₀ c₀ : Int} {t₀ u₀ v₀ : Tok} {n : Nat} {m₀ : Str → Option Value} {news : List (Addr × Obj)} (J : Nat → (Str → Option Value) → List (Addr × Obj) → Prop)
    (hh : A.handled = none) (hr : IsRange s.heap r a₀ b₀ c₀ t₀ u₀ v₀) (hsmall : Builtin.Range.small a₀ b₀ c₀ = true) (hn : Builtin.Range.rangeSize a₀ b₀ c₀ = (n : Int)) (F : Fr h₀ env.locals s.heap m₀) (N : News h₀ env.locals s.heap news) (hj : J 0 m₀ news)
    (turn : ∀ I i t m₁ nx h tk own oI, i < n → (I, oI) ∈ own → (∀ p ∈ own, p.1 = I) → (∀ p ∈ nx, p.1 ≠ I) → J i m₁ nx → Fr h₀ env.locals h (fun y => if y = x then some (.int (a₀ + i * c₀) t) else m₁ y) → News h₀ env.locals h (nx ++ own) →
      wpAny (model prog w) A (execs body env) (InvPostF h₀ env.locals I (J (i + 1)) own { s with heap := h, toks := tk } Q) E { s with heap := h, toks := tk })
    (done : ∀ m₁ nx h tk, J n m₁ nx → Fr h₀ env.locals h m₁ → News h₀ env.locals h nx → Q .next { s with heap := h, toks := tk }) :
    wpAny (model prog w) A (pyIter (.ref r)) (fun it s₂ => LoopAtV prog w A h₀ env x body Q E it s₂) E s := by
  refine wpAny_pyIter_range hr hsmall ?_
  have W := Walks.range (prog := prog) (w := w) hh s.heap.objs.size a₀ c₀ n
  refine loop_free J W ?_ ?_ (next_is_new F) ?_ (by show IsRangeIter _ _ _ _ _; rw [hn]; simpa using Heap.get?_push_size _ rfl) (F.push _) (fun p hp => ⟨Heap.get?_push_of_some _ (N p hp).1, (N p hp).2⟩) hj ?_ ?_
  · rintro i h ho; exact ⟨_, ho⟩
  · intro hm
    exact absurd F.ns.lt ((List.mem_singleton.mp hm) ▸ Nat.lt_irrefl _)
  · intro p hp hI
    exact absurd (Heap.lt_size (N p hp).1) (hI ▸ Nat.lt_irrefl _)
  · rintro i v m₁ nx h tk own oI hin ⟨t, rfl⟩ hm hfp hn hJ F₁ N₁
    exact turn _ i t m₁ nx h tk own oI hin hm (fun p hp => List.mem_singleton.mp (hfp p hp)) hn hJ F₁ N₁
  · exact done
def KF {σ : Type} (Led : σ → List (Addr × Obj)) (ps : σ → List (Str × Value)) (x : Str) (stored : List Str) (m₀ : Str → Option Value) (P : σ → Prop) (m : Str → Option Value) (nx : List (Addr × Obj)) : Prop :=
  ∃ c : σ, nx = Led c ∧ (∀ p ∈ ps c, m p.1 = some p.2) ∧ (∀ z, z ≠ x → (∀ p ∈ ps c, z ≠ p.1) → stored.contains z = false → m z = m₀ z) ∧ P c
theorem kf_end {σ : Type} {Led : σ → List (Addr × Obj)} {ps : σ → List (Str × Value)} {stored : List Str} {m₀ : Str → Option Value} {P : σ → Prop} (c : σ) {L I : Addr} {m' : Str → Option Value} {own news' : List (Addr × Obj)} {s₁ : Shared} {h' : Heap} {tk : Nat}
    (F : Fr h₀ L h' m') (N : News h₀ L h' news') (hn : ∀ p ∈ Led c, p ∈ news') (ho : ∀ p ∈ own, p ∈ news') (hI : ∀ p ∈ Led c, p.1 ≠ I) (hk : ∀ p ∈ ps c, m' p.1 = some p.2) (hr : ∀ z, z ≠ x → (∀ p ∈ ps c, z ≠ p.1) → stored.contains z = false → m' z = m₀ z) (hp : P c) :
    InvEndF h₀ L I (KF Led ps x stored m₀ P) own s₁ { s₁ with heap := h', toks := tk } :=
  InvEndF.intro F N (Led c) hn ho hI ⟨c, rfl, hk, hr, hp⟩
theorem kf_list {σ : Type} {l : Addr} {vs : List Value} {ns : List Int} {nn : Nat} {m₀ : Str → Option Value} (Led : σ → List (Addr × Obj)) (ps : σ → List (Str × Value)) (stored : List Str) (P : Nat → σ → Prop) (c₀ : σ)
    (hh : A.handled = none) (hl : (l, listOf vs.toArray nn) ∈ Led c₀) (hi : IntsAre vs ns) (F : Fr h₀ env.locals s.heap m₀) (N : News h₀ env.locals s.heap (Led c₀)) (hk : ∀ p ∈ ps c₀, m₀ p.1 = some p.2) (hp : P 0 c₀)
    (turn : ∀ (c : σ) I i k t (u : Str → Option Value) h tk own oI, ns[i]? = some k → (I, oI) ∈ own → (∀ p ∈ own, p.1 ∈ [I, l]) → (∀ p ∈ Led c, p.1 ≠ I) → P i c →
      Fr h₀ env.locals h (fun y => if y = x then some (.int k t) else kstB (fun z => if stored.contains z then u z else m₀ z) (ps c) y) → News h₀ env.locals h (Led c ++ own) →
      wpAny (model prog w) A (execs body env) (InvPostF h₀ env.locals I (KF Led ps x stored m₀ (P (i + 1))) own { s with heap := h, toks := tk } Q) E { s with heap := h, toks := tk })
    (done : ∀ (c : σ) (u : Str → Option Value) h tk, P ns.length c → Fr h₀ env.locals h (fun y => if y = x then u y else kstB (fun z => if stored.contains z then u z else m₀ z) (ps c) y) → News h₀ env.locals h (Led c) → Q .next { s with heap := h, toks := tk }) :
    wpAny (model prog w) A (pyIter (.ref l)) (fun it s₂ => LoopAtV prog w A h₀ env x body Q E it s₂) E s := by
  refine iter_listF (fun i m nx => KF Led ps x stored m₀ (P i) m nx) hh hl hi F N ⟨c₀, rfl, hk, fun _ _ _ _ => rfl, hp⟩ ?_ ?_
  · rintro I i k t m₁ nx h tk own oI hx hm hfp hn ⟨c, rfl, h1, h2, hp'⟩ F₁ N₁
    exact turn c I i k t m₁ h tk own oI hx hm hfp hn hp' (kst_fr h1 h2 F₁) N₁
  · rintro m₁ nx h tk ⟨c, rfl, h1, h2, hp'⟩ F₁ N₁
    exact done c m₁ h tk hp' (kst_frOut h1 h2 F₁) N₁
theorem kf_range {σ : Type} {r : Addr} {a₀ b₀ c₁ : Int} {t₀ u₀ v₀ : Tok} {n : Nat} {m₀ : Str → Option Value} (Led : σ → List (Addr × Obj)) (ps : σ → List (Str × Value)) (stored : List Str) (P : Nat → σ → Prop) (c₀ : σ)
    (hh : A.handled = none) (hr : IsRange s.heap r a₀ b₀ c₁ t₀ u₀ v₀) (hsmall : Builtin.Range.small a₀ b₀ c₁ = true) (hn : Builtin.Range.rangeSize a₀ b₀ c₁ = (n : Int)) (F : Fr h₀ env.locals s.heap m₀) (N : News h₀ env.locals s.heap (Led c₀)) (hk : ∀ p ∈ ps c₀, m₀ p.1 = some p.2) (hp : P 0 c₀)
    (turn : ∀ (c : σ) I i t (u : Str → Option Value) h tk own oI, i < n → (I, oI) ∈ own → (∀ p ∈ own, p.1 = I) → (∀ p ∈ Led c, p.1 ≠ I) → P i c →
      Fr h₀ env.locals h (fun y => if y = x then some (.int (a₀ + i * c₁) t) else kstB (fun z => if stored.contains z then u z else m₀ z) (ps c) y) → News h₀ env.locals h (Led c ++ own) →
      wpAny (model prog w) A (execs body env) (InvPostF h₀ env.locals I (KF Led ps x stored m₀ (P (i + 1))) own { s with heap := h, toks := tk } Q) E { s with heap := h, toks := tk })
    (done : ∀ (c : σ) (u : Str → Option Value) h tk, P n c → Fr h₀ env.locals h (fun y => if y = x then u y else kstB (fun z => if stored.contains z then u z else m₀ z) (ps c) y) → News h₀ env.locals h (Led c) → Q .next { s with heap := h, toks := tk }) :
    wpAny (model prog w) A (pyIter (.ref r)) (fun it s₂ => LoopAtV prog w A h₀ env x body Q E it s₂) E s := by
  refine iter_rangeF (fun i m nx => KF Led ps x stored m₀ (P i) m nx) hh hr hsmall hn F N ⟨c₀, rfl, hk, fun _ _ _ _ => rfl, hp⟩ ?_ ?_
  · rintro I i t m₁ nx h tk own oI hx hm hfp hn ⟨c, rfl, h1, h2, hp'⟩ F₁ N₁
    exact turn c I i t m₁ h tk own oI hx hm hfp hn hp' (kst_fr h1 h2 F₁) N₁
  · rintro m₁ nx h tk ⟨c, rfl, h1, h2, hp'⟩ F₁ N₁
    exact done c m₁ h tk hp' (kst_frOut h1 h2 F₁) N₁
end
theorem allLt_mem {d : Addr} : ∀ {l : List (Addr × Obj)}, AllLt d l → ∀ p ∈ l, p.1 < d
  | [], _, _, hp => nomatch hp
  | q :: r, h, p, hp => by
    rcases List.mem_cons.mp hp with rfl | hp
    · exact h.1
    · exact allLt_mem h.2 p hp
theorem tdc {α : Type} (l : List α) (x y : Nat) : List.take (min (x + y) l.length - min x l.length) (List.drop (min x l.length) l) = (l.drop x).take y := by
  rcases Nat.le_total x l.length with h | h
  · rw [Nat.min_eq_left h, List.take_eq_take_iff, List.length_drop, ← Nat.sub_min_sub_right, Nat.add_sub_cancel_left, Nat.min_assoc, Nat.min_self]
  · rw [Nat.min_eq_right h, List.drop_eq_nil_of_le (Nat.le_refl _), List.drop_eq_nil_of_le h, List.take_nil, List.take_nil]
theorem wp_gen {α : Type} {M : Model} {A : Around} {t : Sem α} {Q : α → Shared → Prop} {E : Value → Shared → Prop} {s : Shared} (h : ∀ (R : α → Shared → Prop) (E' : Value → Shared → Prop), (∀ f s₂, Q f s₂ → R f s₂) → wpAny M A t R E' s) : wpAny M A t Q E s := h Q E fun _ _ h => h
theorem wp_gen2 {α β : Type} {M : Model} {A : Around} {t : Sem α} {t' : Sem β} {Q : β → Shared → Prop} {E : Value → Shared → Prop} {s : Shared} (h : ∀ (R : β → Shared → Prop) (E' : Value → Shared → Prop), (∀ f s₂, Q f s₂ → R f s₂) → wpAny M A t (fun _ s₃ => wpAny M A t' R E' s₃) E' s) : wpAny M A t (fun _ s₃ => wpAny M A t' Q E s₃) E s := h Q E fun _ _ h => h
theorem wp_join_bool {M : Model} {A : Around} {t : Sem Bool} {E : Value → Shared → Prop} {s : Shared} {Q : Bool → Shared → Prop} (r : Bool) (hc : ∀ Q' : Bool → Shared → Prop, (∀ tk, Q' r { s with toks := tk }) → wpAny M A t Q' E s) (h : ∀ tk, Q r { s with toks := tk }) : wpAny M A t Q E s := hc Q h
theorem wp_join_boolF {M : Model} {A : Around} {t : Sem Bool} {E : Value → Shared → Prop} {s : Shared} {Q : Bool → Shared → Prop} {h₀ : Heap} {L : Addr} {m : Str → Option Value} {news : List (Addr × Obj)} (r : Bool) (F : Fr h₀ L s.heap m) (N : News h₀ L s.heap news) (hc : ∀ Q' : Bool → Shared → Prop, (∀ h' tk, Fr h₀ L h' m → News h₀ L h' news → Q' r { s with heap := h', toks := tk }) → wpAny M A t Q' E s)
    (h : ∀ h' tk, Fr h₀ L h' m → News h₀ L h' news → Q r { s with heap := h', toks := tk }) : wpAny M A t Q E s := hc Q h
end Mine
namespace Mine
def InvPostT (h₀ : Heap) (L I : Addr) (J : (Str → Option Value) → List (Addr × Obj) → Prop) (own : List (Addr × Obj)) (s₁ : Shared) (f : Flow) (s₂ : Shared) : Prop :=
  match f with
  | .next => InvEndF h₀ L I J own s₁ s₂
  | _ => False
def KFT {σ : Type} (Led : σ → List (Addr × Obj)) (ps : σ → List (Str × Value)) (stored : List Str) (m₀ : Str → Option Value) (P : σ → Prop) (m : Str → Option Value) (nx : List (Addr × Obj)) : Prop :=
  ∃ c : σ, nx = Led c ∧ (∀ p ∈ ps c, m p.1 = some p.2) ∧ (∀ z, (∀ p ∈ ps c, z ≠ p.1) → stored.contains z = false → m z = m₀ z) ∧ P c
section
variable {prog : Program} {w : World} {A : Around} {E : Value → Shared → Prop} {s : Shared} {env : Env} {h₀ : Heap} {target : Expr} {body : List Stmt} {Q : Flow → Shared → Prop}
theorem loopT_free {I : Addr} {fp : List Addr} {n : Nat} {P : Nat → Value → Prop} {St : Nat → Heap → Prop} {m₀ : Str → Option Value} {news : List (Addr × Obj)} (J : Nat → (Str → Option Value) → List (Addr × Obj) → Prop)
    (W : Walks prog w A I fp [I] n P St) (hlive : ∀ i h, St i h → ∃ o, h.get? I = some o) (hLf : env.locals ∉ fp) (hI0 : h₀.get? I = none) (hnw : ∀ p ∈ news, p.1 ≠ I) (hst : St 0 s.heap)
    (F : Fr h₀ env.locals s.heap m₀) (N : News h₀ env.locals s.heap news)
    (hgo : ∀ i (s' : Shared) v (Q' : Unit → Shared → Prop), St i s'.heap → Q' () s' → wpAny (model prog w) A (letOwnedTupleGo target (.ref I) v) Q' E s') (hj : J 0 m₀ news)
    (turn : ∀ i v m₁ nx (s₁ : Shared) own oI, i < n → P i v → (I, oI) ∈ own → (∀ p ∈ own, p.1 ∈ fp) → (∀ p ∈ nx, p.1 ≠ I) → J i m₁ nx → Fr h₀ env.locals s₁.heap m₁ → News h₀ env.locals s₁.heap (nx ++ own) →
      wpAny (model prog w) A (assign target env v) (fun _ s₃ => wpAny (model prog w) A (execs body env) (InvPostT h₀ env.locals I (J (i + 1)) own s₁) E s₃) E s₁)
    (done : ∀ m₁ nx h tk, J n m₁ nx → Fr h₀ env.locals h m₁ → News h₀ env.locals h nx → Q .next { s with heap := h, toks := tk }) :
    LoopAtT prog w A h₀ env target body Q E (.ref I) s := by
  refine ⟨I, fp, [I], n, P, fun i h => St i h, m₀, news, (fun i m nx => J i m nx), rfl, W, hLf, ?_, ?_, hst, F, N, hgo, hj, ?_, ?_⟩
  · intro b hb; rw [List.mem_singleton.mp hb]; exact hI0
  · intro p hp hm; exact hnw p hp (List.mem_singleton.mp hm)
  · intro i v m₁ nx s₁ own hin hP hJ hoff hown hget hfp hSt F₁ N₁
    obtain ⟨oI, hoI⟩ := hlive _ _ hSt
    have hmem : (I, oI) ∈ own := hfp I (W.sub I (List.mem_singleton.mpr rfl)) hI0 oI hoI
    have N₂ : News h₀ env.locals s₁.heap (nx ++ own) := fun p hp => N₁ p ((List.mem_append.mp hp).elim (fun h => List.mem_append.mpr (.inr h)) fun h => List.mem_append.mpr (.inl h))
    refine wpAny_mono (turn i v m₁ nx s₁ own oI hin hP hmem hown (fun p hp e => hoff p hp (by rw [e]; exact List.mem_singleton.mpr rfl)) hJ F₁ N₂) (fun _ s₃ h₃ => wpAny_mono h₃ (fun f s₂ p => ?_) fun _ _ e => e) fun _ _ e => e
    cases f with
    | ret v => exact p.elim
    | brk => exact p.elim
    | cont => exact p.elim
    | next =>
      obtain ⟨h', tk, m', news', nx', e, F', N', hn, ho, ha, hm⟩ := p
      exact ⟨rfl, h', tk, m', nx', e, F', fun p hp => N' p ((List.mem_append.mp hp).elim (ho p) (hn p)), fun p hp hq => ha p hp (List.mem_singleton.mp hq), hm⟩
  · rintro h' tk m' news' F' N' _ hJ
    exact done m' news' h' tk hJ F' N'
theorem iterT_list {l : Addr} {vs : List Value} {ns : List Int} {nn : Nat} {m₀ : Str → Option Value} {news : List (Addr × Obj)} (J : Nat → (Str → Option Value) → List (Addr × Obj) → Prop)
    (hh : A.handled = none) (hl : (l, listOf vs.toArray nn) ∈ news) (hi : IntsAre vs ns) (F : Fr h₀ env.locals s.heap m₀) (N : News h₀ env.locals s.heap news)
    (hgo : ∀ it v, letOwnedTupleGo target it v = pure ()) (hj : J 0 m₀ news)
    (turn : ∀ I i k t m₁ nx (s₁ : Shared) own oI, ns[i]? = some k → (I, oI) ∈ own → (∀ p ∈ own, p.1 ∈ [I, l]) → (∀ p ∈ nx, p.1 ≠ I) → J i m₁ nx → Fr h₀ env.locals s₁.heap m₁ → News h₀ env.locals s₁.heap (nx ++ own) →
      wpAny (model prog w) A (assign target env (.int k t)) (fun _ s₃ => wpAny (model prog w) A (execs body env) (InvPostT h₀ env.locals I (J (i + 1)) own s₁) E s₃) E s₁)
    (done : ∀ m₁ nx h tk, J ns.length m₁ nx → Fr h₀ env.locals h m₁ → News h₀ env.locals h nx → Q .next { s with heap := h, toks := tk }) :
    wpAny (model prog w) A (pyIter (.ref l)) (fun it s₂ => LoopAtT prog w A h₀ env target body Q E it s₂) E s := by
  have hol : s.heap.get? l = some (listOf vs.toArray nn) := (N _ hl).1
  have hls : s.heap.IsList l vs.toArray := ⟨_, hol, rfl, nn, rfl⟩
  have hne : l ≠ s.heap.objs.size := Nat.ne_of_lt (Heap.lt_size hol)
  refine wpAny_pyIter_list hls ?_
  have W := Walks.list (prog := prog) (w := w) hh s.heap.objs.size l hne vs.toArray
  have hlen : vs.toArray.size = ns.length := by simp [hi.length]
  rw [hlen] at W
  refine loopT_free J W ?_ ?_ (next_is_new F) ?_ ⟨⟨_, Heap.get?_push_size _ rfl, rfl, rfl⟩, hls.at fun o e => Heap.get?_push_of_some _ e⟩ (F.push _) (fun p hp => ⟨Heap.get?_push_of_some _ (N p hp).1, (N p hp).2⟩) (fun i s' v Q' _ hQ' => wpAny_of_eq (hgo _ _) hQ') hj ?_ ?_
  · rintro i h ⟨⟨o, ho, _⟩, _⟩; exact ⟨o, ho⟩
  · intro hm
    rcases List.mem_cons.mp hm with e | hm
    · exact absurd F.ns.lt (e ▸ Nat.lt_irrefl _)
    · exact (N _ hl).2.1 ((List.mem_singleton.mp hm).symm)
  · intro p hp hI
    exact absurd (Heap.lt_size (N p hp).1) (hI ▸ Nat.lt_irrefl _)
  · rintro i v m₁ nx s₁ own oI hin hP hm hfp hn hJ F₁ N₁
    obtain ⟨t, hx⟩ := hi.get i ns[i] (by simp [hin])
    have hv : v = .int ns[i] t := by
      have hP' : vs[i]? = some v := by simpa using hP
      rw [hx] at hP'; exact (Option.some.inj hP').symm
    subst hv
    exact turn _ i ns[i] t m₁ nx s₁ own oI (by simp [hin]) hm hfp hn hJ F₁ N₁
  · exact done
theorem iterT_range {r : Addr} {a₀ b₀ c₀ : Int} {t₀ u₀ v₀ : Tok} {n : Nat} {m₀ : Str → Option Value} {news : List (Addr × Obj)} (J : Nat → (Str → Option Value) → List (Addr × Obj) → Prop)
    (hh : A.handled = none) (hr : IsRange s.heap r a₀ b₀ c₀ t₀ u₀ v₀) (hsmall : Builtin.Range.small a₀ b₀ c₀ = true) (hn : Builtin.Range.rangeSize a₀ b₀ c₀ = (n : Int)) (F : Fr h₀ env.locals s.heap m₀) (N : News h₀ env.locals s.heap news)
    (hgo : ∀ it v, letOwnedTupleGo target it v = pure ()) (hj : J 0 m₀ news)
    (turn : ∀ I i t m₁ nx (s₁ : Shared) own oI, i < n → (I, oI) ∈ own → (∀ p ∈ own, p.1 = I) → (∀ p ∈ nx, p.1 ≠ I) → J i m₁ nx → Fr h₀ env.locals s₁.heap m₁ → News h₀ env.locals s₁.heap (nx ++ own) →
      wpAny (model prog w) A (assign target env (.int (a₀ + i * c₀) t)) (fun _ s₃ => wpAny (model prog w) A (execs body env) (InvPostT h₀ env.locals I (J (i + 1)) own s₁) E s₃) E s₁)
    (done : ∀ m₁ nx h tk, J n m₁ nx → Fr h₀ env.locals h m₁ → News h₀ env.locals h nx → Q .next { s with heap := h, toks := tk }) :
    wpAny (model prog w) A (pyIter (.ref r)) (fun it s₂ => LoopAtT prog w A h₀ env target body Q E it s₂) E s := by
  refine wpAny_pyIter_range hr hsmall ?_
  have W := Walks.range (prog := prog) (w := w) hh s.heap.objs.size a₀ c₀ n
  refine loopT_free J W ?_ ?_ (next_is_new F) ?_ (by show IsRangeIter _ _ _ _ _; rw [hn]; simpa using Heap.get?_push_size _ rfl) (F.push _) (fun p hp => ⟨Heap.get?_push_of_some _ (N p hp).1, (N p hp).2⟩) (fun i s' v Q' _ hQ' => wpAny_of_eq (hgo _ _) hQ') hj ?_ ?_
  · rintro i h ho; exact ⟨_, ho⟩
  · intro hm
    exact absurd F.ns.lt ((List.mem_singleton.mp hm) ▸ Nat.lt_irrefl _)
  · intro p hp hI
    exact absurd (Heap.lt_size (N p hp).1) (hI ▸ Nat.lt_irrefl _)
  · rintro i v m₁ nx s₁ own oI hin ⟨t, rfl⟩ hm hfp hn hJ F₁ N₁
    exact turn _ i t m₁ nx s₁ own oI hin hm (fun p hp => List.mem_singleton.mp (hfp p hp)) hn hJ F₁ N₁
  · exact done
theorem kft_end {σ : Type} {Led : σ → List (Addr × Obj)} {ps : σ → List (Str × Value)} {stored : List Str} {m₀ : Str → Option Value} {P : σ → Prop} (c : σ) {L I : Addr} {m' : Str → Option Value} {own news' : List (Addr × Obj)} {s₁ : Shared} {h' : Heap} {tk : Nat}
    (F : Fr h₀ L h' m') (N : News h₀ L h' news') (hn : ∀ p ∈ Led c, p ∈ news') (ho : ∀ p ∈ own, p ∈ news') (hI : ∀ p ∈ Led c, p.1 ≠ I) (hk : ∀ p ∈ ps c, m' p.1 = some p.2) (hr : ∀ z, (∀ p ∈ ps c, z ≠ p.1) → stored.contains z = false → m' z = m₀ z) (hp : P c) :
    InvEndF h₀ L I (KFT Led ps stored m₀ P) own s₁ { s₁ with heap := h', toks := tk } :=
  InvEndF.intro F N (Led c) hn ho hI ⟨c, rfl, hk, hr, hp⟩
theorem kft_list {σ : Type} {l : Addr} {vs : List Value} {ns : List Int} {nn : Nat} {m₀ : Str → Option Value} (Led : σ → List (Addr × Obj)) (ps : σ → List (Str × Value)) (stored : List Str) (P : Nat → σ → Prop) (c₀ : σ)
    (hh : A.handled = none) (hl : (l, listOf vs.toArray nn) ∈ Led c₀) (hi : IntsAre vs ns) (hgo : ∀ it v, letOwnedTupleGo target it v = pure ()) (F : Fr h₀ env.locals s.heap m₀) (N : News h₀ env.locals s.heap (Led c₀)) (hk : ∀ p ∈ ps c₀, m₀ p.1 = some p.2) (hp : P 0 c₀)
    (turn : ∀ (c : σ) I i k t (u : Str → Option Value) (s₁ : Shared) own oI, ns[i]? = some k → (I, oI) ∈ own → (∀ p ∈ own, p.1 ∈ [I, l]) → (∀ p ∈ Led c, p.1 ≠ I) → P i c →
      Fr h₀ env.locals s₁.heap (kstB (fun z => if stored.contains z then u z else m₀ z) (ps c)) → News h₀ env.locals s₁.heap (Led c ++ own) →
      wpAny (model prog w) A (assign target env (.int k t)) (fun _ s₃ => wpAny (model prog w) A (execs body env) (InvPostT h₀ env.locals I (KFT Led ps stored m₀ (P (i + 1))) own s₁) E s₃) E s₁)
    (done : ∀ (c : σ) (u : Str → Option Value) h tk, P ns.length c → Fr h₀ env.locals h (kstB (fun z => if stored.contains z then u z else m₀ z) (ps c)) → News h₀ env.locals h (Led c) → Q .next { s with heap := h, toks := tk }) :
    wpAny (model prog w) A (pyIter (.ref l)) (fun it s₂ => LoopAtT prog w A h₀ env target body Q E it s₂) E s := by
  refine iterT_list (fun i m nx => KFT Led ps stored m₀ (P i) m nx) hh hl hi F N hgo ⟨c₀, rfl, hk, fun _ _ _ => rfl, hp⟩ ?_ ?_
  · rintro I i k t m₁ nx s₁ own oI hx hm hfp hn ⟨c, rfl, h1, h2, hp'⟩ F₁ N₁
    exact turn c I i k t m₁ s₁ own oI hx hm hfp hn hp' (ksw_fr h1 h2 F₁) N₁
  · rintro m₁ nx h tk ⟨c, rfl, h1, h2, hp'⟩ F₁ N₁
    exact done c m₁ h tk hp' (ksw_fr h1 h2 F₁) N₁
theorem kft_range {σ : Type} {r : Addr} {a₀ b₀ c₁ : Int} {t₀ u₀ v₀ : Tok} {n : Nat} {m₀ : Str → Option Value} (Led : σ → List (Addr × Obj)) (ps : σ → List (Str × Value)) (stored : List Str) (P : Nat → σ → Prop) (c₀ : σ)
    (hh : A.handled = none) (hr : IsRange s.heap r a₀ b₀ c₁ t₀ u₀ v₀) (hsmall : Builtin.Range.small a₀ b₀ c₁ = true) (hn : Builtin.Range.rangeSize a₀ b₀ c₁ = (n : Int)) (hgo : ∀ it v, letOwnedTupleGo target it v = pure ()) (F : Fr h₀ env.locals s.heap m₀) (N : News h₀ env.locals s.heap (Led c₀)) (hk : ∀ p ∈ ps c₀, m₀ p.1 = some p.2) (hp : P 0 c₀)
    (turn : ∀ (c : σ) I i t (u : Str → Option Value) (s₁ : Shared) own oI, i < n → (I, oI) ∈ own → (∀ p ∈ own, p.1 = I) → (∀ p ∈ Led c, p.1 ≠ I) → P i c →
      Fr h₀ env.locals s₁.heap (kstB (fun z => if stored.contains z then u z else m₀ z) (ps c)) → News h₀ env.locals s₁.heap (Led c ++ own) →
      wpAny (model prog w) A (assign target env (.int (a₀ + i * c₁) t)) (fun _ s₃ => wpAny (model prog w) A (execs body env) (InvPostT h₀ env.locals I (KFT Led ps stored m₀ (P (i + 1))) own s₁) E s₃) E s₁)
    (done : ∀ (c : σ) (u : Str → Option Value) h tk, P n c → Fr h₀ env.locals h (kstB (fun z => if stored.contains z then u z else m₀ z) (ps c)) → News h₀ env.locals h (Led c) → Q .next { s with heap := h, toks := tk }) :
    wpAny (model prog w) A (pyIter (.ref r)) (fun it s₂ => LoopAtT prog w A h₀ env target body Q E it s₂) E s := by
  refine iterT_range (fun i m nx => KFT Led ps stored m₀ (P i) m nx) hh hr hsmall hn F N hgo ⟨c₀, rfl, hk, fun _ _ _ => rfl, hp⟩ ?_ ?_
  · rintro I i t m₁ nx s₁ own oI hx hm hfp hn ⟨c, rfl, h1, h2, hp'⟩ F₁ N₁
    exact turn c I i t m₁ s₁ own oI hx hm hfp hn hp' (ksw_fr h1 h2 F₁) N₁
  · rintro m₁ nx h tk ⟨c, rfl, h1, h2, hp'⟩ F₁ N₁
    exact done c m₁ h tk hp' (ksw_fr h1 h2 F₁) N₁
end
end Mine
namespace Mine
theorem ints_of_keys {prog : Program} {w : World} : ∀ {kvs : List (Int × Value)} {vs : List Value}, vs.length = kvs.length → (∀ (j : Nat) (v : Value), vs[j]? = some v → ∃ k x, kvs[j]? = some (k, x) ∧ (intKind prog w).is k v = true) → IntsAre vs (kvs.map (·.1))
  | [], [], _, _ => .nil
  | p :: r, v :: vs, hl, hv => by
    obtain ⟨k, x, e, hk⟩ := hv 0 v rfl
    simp only [List.getElem?_cons_zero, Option.some.injEq] at e
    subst e
    obtain ⟨t, rfl⟩ := Value.isInt_shape hk
    exact .cons k t (ints_of_keys (by simpa using hl) fun j u hu => by simpa using hv (j + 1) u (by simpa using hu))
  | [], _ :: _, hl, _ => by simp at hl
  | _ :: _, [], hl, _ => by simp at hl
theorem sorted_dict {prog : Program} {w : World} {A : Around} {E : Value → Shared → Prop} {s : Shared} {h₀ : Heap} {L d : Addr} {m : Str → Option Value} {news : List (Addr × Obj)} {od : Obj} {kvs : List (Int × Value)} {Q : Value → Shared → Prop}
    (hh : A.handled = none) (F : Fr h₀ L s.heap m) (N : News h₀ L s.heap news) (hm : (d, od) ∈ news) (hd : od.IsDictOf (intKind prog w) kvs) (lo : (d == sysModules) = false) (hlen : kvs.length < 64)
    (h : ∀ D vs' ns' c h' tk, Fr h₀ L h' m → News h₀ L h' ((D, listOf (List.toArray vs') c) :: news) → (∀ q ∈ news, q.1 < D) → IntsAre vs' ns' → ns'.Perm (kvs.map (·.1)) → ns'.Pairwise (fun x y => x ≤ y) → Q (.ref D) { s with heap := h', toks := tk }) :
    wpAny (model prog w) A (call (.builtin "sorted") [.ref d]) Q E s := by
  have hD := kda_dict N hm hd
  obtain ⟨ep, hat⟩ := hD.dictAt
  refine kdu_sorted (kdl_dict (knd := intKind prog w) (kvs := kvs) (ep := ep) lo) hh F N hat (by rw [sizeLine_eq]; omega) fun B h' tk vs F' N' l1 hl hv => ?_
  have hi := ints_of_keys hl hv
  refine ksk_lsort (news' := fun o => (B, o) :: news) F' N' (fun o => .head fun p hp => Nat.ne_of_lt (l1 p hp)) rfl hi (by rw [List.length_map]; exact hlen) ?_
  intro vs' ns' c h2 F2 N2 hi2 _ hp hP _
  exact h B vs' ns' c h2 tk F2 N2 l1 hi2 hp hP
end Mine
namespace Mine
theorem item_ints_any {prog : Program} {w : World} {A : Around} {E : Value → Shared → Prop} {s : Shared} {value slice : PySem.Expr} {l : Addr} {vs : List Value} {ns : List Int} {k : Int} {u : Tok} {Q : Value → Shared → Prop} (hl : s.heap.IsList l vs.toArray) (hi : IntsAre vs ns)
    (h0 : 0 ≤ k) (h1 : k < ns.length) (hfit : k < 2 ^ 63) (h : ∀ t, Q (.int (ns.getD k.toNat 0) t) s)
    (hs : subscripted slice false (.ref l) (.int k u) = operate [.ref l, .int k u] (getItem (.ref l) (.int k u)) := by with_unfolding_all rfl) :
    wpAny (model prog w) A (subscriptTail value slice (.ref l) (.int k u)) Q E s := by
  obtain ⟨t, hx⟩ := hi.get k.toNat _ (ints_getD h0 h1)
  exact tail_any hl.typeIs slot_list_getitem.lookup (wpAny_getItem_list hl h0 hfit (by simpa using hx) (h t)) hs
end Mine
namespace Mine
theorem off1_mem {D : Addr} : ∀ {l : List (Addr × Obj)}, LCg.Off1 D l → ∀ p ∈ l, p.1 ≠ D
  | [], _, _, hp => nomatch hp
  | q :: r, h, p, hp => by
    rcases List.mem_cons.mp hp with rfl | hp
    · exact h.1
    · exact off1_mem h.2 p hp
end Mine
namespace Mine
def CtrL (lv : Nat) (w : World) (f : Addr) (vs : List Value) (news : List (Addr × Obj)) (Out : Value → List (Addr × Obj) → Prop) : Prop :=
  ∀ (mean : ExcName → Option Value) (mg mb : Str → Option Value) (dp un : Nat) (gd : Option (List Code)) (cn : Str) (cs : Scope) (a : Addr) (ccd : Value) (cl : List (Str × Addr)) (outer : List Env) (A₀ : Around) (base h₀ : Heap) (L : Addr) (m : Str → Option Value) (s : Shared) (Q E : Value → Shared → Prop),
    Below A₀ base outer h₀ → Fr h₀ L s.heap m → (hd.heap_39 w.params).In h₀ → News h₀ L s.heap news → Top hd.view_39 (looseW hd.view_39 [Str.ofString "DeltaIndex"]) mean mg mb h₀ → cs.kind = .function →
    dp + lv < recursionLimit → un + 8 * lv < cLine →
    (∀ r tl h' tk', Fr h₀ L h' m → News h₀ L h' (news ++ tl) → (∀ q ∈ news, ∀ p ∈ tl, q.1 ≠ p.1) → Out r tl → Q r { s with heap := h', toks := tk' }) →
    wpAny (model PySem.Challenge.rw_pb0086_01.row.prog w) (ktrTop dp un gd cn cs L a ccd cl outer) (call (.ref f) vs) Q E s
end Mine
namespace Mine
theorem CtrL.useL {lv : Nat} {w : World} {f : Addr} {vs : List Value} {ps news : List (Addr × Obj)} {Out : Value → List (Addr × Obj) → Prop} {mean : ExcName → Option Value} {mg mb : Str → Option Value} {dp un : Nat} {gd : Option (List Code)} {cn : Str} {cs : Scope} {a : Addr} {ccd : Value} {cl : List (Str × Addr)} {outer : List Env} {A₀ : Around} {base h₀ : Heap} {L : Addr} {m : Str → Option Value} {s : Shared} {Q E : Value → Shared → Prop}
    (N : News h₀ L s.heap news) (C : CtrL lv w f vs (ps ++ news) Out) (hps : ∀ p ∈ ps, p ∈ news) (B : Below A₀ base outer h₀) (F : Fr h₀ L s.heap m) (X : (hd.heap_39 w.params).In h₀) (T : Top hd.view_39 (looseW hd.view_39 [Str.ofString "DeltaIndex"]) mean mg mb h₀) (hk : cs.kind = .function)
    (hd : dp + lv < recursionLimit) (hu : un + 8 * lv < cLine)
    (ret : ∀ r tl h' tk', Fr h₀ L h' m → News h₀ L h' (news ++ tl) → (∀ q ∈ news, ∀ p ∈ tl, q.1 ≠ p.1) → Out r tl → Q r { s with heap := h', toks := tk' }) :
    wpAny (model PySem.Challenge.rw_pb0086_01.row.prog w) (ktrTop dp un gd cn cs L a ccd cl outer) (call (.ref f) vs) Q E s := by
  refine C mean mg mb dp un gd cn cs a ccd cl outer A₀ base h₀ L m s Q E B F X (fun p hp => ?_) T hk hd hu (fun r tl h' tk' F' N' l o => ret r tl h' tk' F' (fun p hp => N' p ?_) (fun q hq p hp => l q (List.mem_append.mpr (.inr hq)) p hp) o)
  · exact N p ((List.mem_append.mp hp).elim (hps p) id)
  · exact (List.mem_append.mp hp).elim (fun h => List.mem_append.mpr (.inl (List.mem_append.mpr (.inr h)))) fun h => List.mem_append.mpr (.inr h)
structure Hold (P : Prop) : Prop where
  mk :: (out : P)
end Mine
local macro_rules | `(tactic| k_room) => `(tactic| ktr_room)
namespace Mine
set_option maxHeartbeats 8000000 in
theorem c_rolled (w : World) (news : List (Addr × Obj)) (x dx : Addr) (n : Nat) (h1 h2 : Int) (k1 k2 tb tw t1 t2 t3 : Tok) (b wt v g f : Int)
   (hv : 0 ≤ v ∧ v < 2147483647) (hw : 0 ≤ wt ∧ wt < 2147483647) (hg : 0 ≤ g ∧ g < 256) (hf : 0 ≤ f ∧ f < 256) :
   CtrL 8 w 42 [.ref x, .int v t1, .int g t2, .int f t3] ((x, instObj 45 dx) :: (dx, dictOf [⟨h1, .str "block" k1, .int b tb⟩, ⟨h2, .str "weight" k2, .int wt tw⟩] n) :: news)
     (fun r tl => tl = [] ∧ ∃ t, r = .int (Int.fmod ((v - (g + 1) * wt) * 263 + f + 1) 2147483647) t) := by
  w_top off; unfold CtrL; k_fill; intro mean mg mb dp un gd cn cs a ccd cl outer A₀ base h₀ L m s Q E B F X N T hk hd hu hret; refine wpAny_call ?_; k_dflt cell_enter
  k_steps
  exact hret _ [] _ _ (by k_asm) (by first | k_asm | (simp only [List.append_nil]; k_asm)) (fun _ _ _ h9 => nomatch h9) ⟨rfl, _, rfl⟩
end Mine
namespace Mine
def ofsum (ks : List Int) : Int := ks.foldl (fun f o => Int.fmod (f * 263 + o + 1) 2147483647) 0
theorem ofsum_range (ks : List Int) : 0 ≤ ofsum ks ∧ ofsum ks < 2147483647 := by
  unfold ofsum
  rw [← List.reverse_reverse ks, List.foldl_reverse]
  generalize ks.reverse = l
  cases l with
  | nil => decide
  | cons a r => simp only [List.foldr_cons]; exact ⟨fmod_lo _ (by decide), fmod_hi _ (by decide)⟩
theorem ofsum_app (ks : List Int) (o : Int) : ofsum (ks ++ [o]) = Int.fmod (ofsum ks * 263 + o + 1) 2147483647 := by
  unfold ofsum; rw [List.foldl_append]; rfl
theorem val_ex {x y : Int} {t : Tok} (h : x = y) : ∃ t', Value.int x t = .int y t' := ⟨t, by rw [h]⟩
theorem of_zero : (0 : Int) = ofsum [] ∧ (0 : Int) ≤ 0 ∧ (0 : Int) < 2147483647 := by decide
theorem of_step {f o : Int} {pre : List Int} (h : f = ofsum pre) : Int.fmod (f * 263 + o + 1) 2147483647 = ofsum (pre ++ [o]) ∧ 0 ≤ Int.fmod (f * 263 + o + 1) 2147483647 ∧ Int.fmod (f * 263 + o + 1) 2147483647 < 2147483647 := by
  subst h; exact ⟨(ofsum_app _ _).symm, fmod_lo _ (by decide), fmod_hi _ (by decide)⟩
theorem take_drop_clip {ks : List Int} {a b : Int} (ha : 0 ≤ a) (hb : 0 ≤ b) :
  List.take (clipAt ks.length (a + b) - clipAt ks.length a) (List.drop (clipAt ks.length a) ks) = (ks.drop a.toNat).take b.toNat := by
  obtain ⟨x, rfl⟩ := Int.eq_ofNat_of_zero_le ha
  obtain ⟨y, rfl⟩ := Int.eq_ofNat_of_zero_le hb
  rw [← Int.natCast_add, clipAt_nat, clipAt_nat, Int.toNat_natCast, Int.toNat_natCast]
  exact tdc ks x y
local macro_rules | `(tactic| walk_at "exec For Name Subscript cons nil") => `(tactic| (k_here; (rename Fr _ _ _ _ => lF'); (with_unfolding_all refine' For_invVF lF' ?k1 ?k2 ?_; (case k1 => exact rfl); (case k2 => exact rfl); k_whole)))
local macro_rules | `(tactic| walk_at $x:str) => if ["pyIter bytes"].contains x.getString then `(tactic| refine Hold.out ?_) else Lean.Macro.throwUnsupported
set_option maxHeartbeats 8000000 in
theorem c_of (w : World) (news : List (Addr × Obj)) (x dx : Addr) (n : Nat) (h1 h2 : Int) (k1 k2 tb tw t1 t2 : Tok) (b wt at' : Int) (O : Array UInt8) (ks : List Int)
   (hO : KBw.bInts O = ks) (hks : ks.length ≤ 100) (hb : 0 ≤ b ∧ b < 1000) (hat : 0 ≤ at' ∧ at' < 1000)  :
   CtrL 8 w 35 [.ref x, .bytes O t1, .int at' t2] ((x, instObj 45 dx) :: (dx, dictOf [⟨h1, .str "block" k1, .int b tb⟩, ⟨h2, .str "weight" k2, .int wt tw⟩] n) :: news)
     (fun r tl => tl = [] ∧ ∃ t, r = .int (ofsum ((ks.drop at'.toNat).take b.toNat)) t) := by
  w_top off; unfold CtrL; k_fill; intro mean mg mb dp un gd cn cs a ccd cl outer A₀ base h₀ L m s Q E B F X N T hk hd hu hret; refine wpAny_call ?_; k_dflt cell_enter
  k_steps
  refine Hold.mk ?_
  k_with "state" => (first | exact of_zero | exact of_step (by assumption))
  k_state (fun pre f => f = ofsum pre ∧ 0 ≤ f ∧ f < 2147483647) "found"
  k_steps
  exact hret _ [] _ _ (by k_asm) (by first | k_asm | (simp only [List.append_nil]; k_asm)) (fun _ _ _ h9 => nomatch h9) ⟨rfl, val_ex (Eq.trans (by assumption) (congrArg ofsum (take_drop_clip hat.1 hb.1)))⟩
end Mine
namespace Mine
/-! pure: blocks and groups -/
section
variable {K : Type} [DecidableEq K]
def lookD (D : List (K × List Int)) (k : K) : List Int := ((D.find? fun q => q.1 = k).map (·.2)).getD []
def ins (D : List (K × List Int)) (k : K) (a : Int) : List (K × List Int) :=
  if D.any (fun q => q.1 = k) then D.map (fun q => if q.1 = k then (q.1, lookD D k ++ [a]) else q) else D ++ [(k, [a])]
def DL (tl : List (Addr × Obj)) : List (K × Value) → List (K × List Int) → Prop
  | [], [] => True
  | p :: r, q :: s => (p.1 = q.1 ∧ ∃ l vs n, p.2 = .ref l ∧ (l, listOf vs.toArray n) ∈ tl ∧ IntsAre vs q.2) ∧ DL tl r s
  | _, _ => False
theorem DL.mono {tl tl' : List (Addr × Obj)} (hs : ∀ p ∈ tl, p ∈ tl') : ∀ {kvs : List (K × Value)} {D : List (K × List Int)}, DL tl kvs D → DL tl' kvs D
  | [], [], _ => trivial
  | _ :: _, _ :: _, ⟨⟨h1, l, vs, n, h2, h3, h4⟩, h5⟩ => ⟨⟨h1, l, vs, n, h2, hs _ h3, h4⟩, DL.mono hs h5⟩
  | [], _ :: _, h => h.elim
  | _ :: _, [], h => h.elim
theorem DL.keys {tl : List (Addr × Obj)} : ∀ {kvs : List (K × Value)} {D : List (K × List Int)}, DL tl kvs D → kvs.map (·.1) = D.map (·.1)
  | [], [], _ => rfl
  | _ :: _, _ :: _, ⟨⟨h1, _⟩, h5⟩ => by simp only [List.map_cons, h1, DL.keys h5]
  | [], _ :: _, h => h.elim
  | _ :: _, [], h => h.elim
theorem DL.length {tl : List (Addr × Obj)} {kvs : List (K × Value)} {D : List (K × List Int)} (h : DL tl kvs D) : kvs.length = D.length := by
  have := congrArg List.length h.keys
  simpa using this
theorem DL.any {tl : List (Addr × Obj)} (k : K) : ∀ {kvs : List (K × Value)} {D : List (K × List Int)}, DL tl kvs D → kvs.any (fun kv => kv.1 = k) = D.any (fun q => q.1 = k)
  | [], [], _ => rfl
  | _ :: _, _ :: _, ⟨⟨h1, _⟩, h5⟩ => by simp only [List.any_cons, h1, DL.any k h5]
  | [], _ :: _, h => h.elim
  | _ :: _, [], h => h.elim
theorem DL.look {tl : List (Addr × Obj)} (k : K) : ∀ {kvs : List (K × Value)} {D : List (K × List Int)}, DL tl kvs D →
    (valueAt kvs k = none ∧ (D.find? fun q => q.1 = k) = none) ∨ ∃ l vs n xs, valueAt kvs k = some (.ref l) ∧ (l, listOf vs.toArray n) ∈ tl ∧ IntsAre vs xs ∧ (D.find? fun q => q.1 = k) = some (k, xs)
  | [], [], _ => .inl ⟨rfl, rfl⟩
  | p :: r, q :: s, ⟨⟨h1, l, vs, n, h2, h3, h4⟩, h5⟩ => by
    by_cases e : q.1 = k
    · right
      obtain ⟨q1, q2⟩ := q
      subst e
      refine ⟨l, vs, n, q2, ?_, h3, h4, ?_⟩
      · unfold valueAt; rw [List.find?_cons_of_pos (by simpa using h1)]; simp [h2]
      · rw [List.find?_cons_of_pos (by simp)]
    · have e' : ¬ p.1 = k := by rw [h1]; exact e
      unfold valueAt
      rw [List.find?_cons_of_neg (by simpa using e'), List.find?_cons_of_neg (by simpa using e)]
      exact DL.look k h5
  | [], _ :: _, h => h.elim
  | _ :: _, [], h => h.elim
theorem DL.map_ins {tl : List (Addr × Obj)} {k : K} {l : Addr} {vs : List Value} {n : Nat} {xs : List Int} (hl : (l, listOf vs.toArray n) ∈ tl) (hi : IntsAre vs xs) : ∀ {kvs : List (K × Value)} {D : List (K × List Int)}, DL tl kvs D →
    DL tl (kvs.map fun kv => if kv.1 = k then (kv.1, .ref l) else kv) (D.map fun q => if q.1 = k then (q.1, xs) else q)
  | [], [], _ => trivial
  | p :: r, q :: s, ⟨⟨h1, h2⟩, h5⟩ => by
    refine ⟨?_, DL.map_ins hl hi h5⟩
    dsimp only
    by_cases e : q.1 = k
    · rw [if_pos (h1.trans e), if_pos e]; exact ⟨h1, l, vs, n, rfl, hl, hi⟩
    · rw [if_neg (fun h => e (h1.symm.trans h)), if_neg e]; exact ⟨h1, h2⟩
  | [], _ :: _, h => h.elim
  | _ :: _, [], h => h.elim
theorem DL.snoc {tl : List (Addr × Obj)} {k : K} {l : Addr} {vs : List Value} {n : Nat} {xs : List Int} (hl : (l, listOf vs.toArray n) ∈ tl) (hi : IntsAre vs xs) : ∀ {kvs : List (K × Value)} {D : List (K × List Int)}, DL tl kvs D →
    DL tl (kvs ++ [(k, .ref l)]) (D ++ [(k, xs)])
  | [], [], _ => ⟨⟨rfl, l, vs, n, rfl, hl, hi⟩, trivial⟩
  | _ :: _, _ :: _, ⟨h1, h5⟩ => ⟨h1, DL.snoc hl hi h5⟩
  | [], _ :: _, h => h.elim
  | _ :: _, [], h => h.elim
theorem DL.ins {tl : List (Addr × Obj)} {k : K} {a : Int} {l : Addr} {vs : List Value} {n : Nat} {kvs : List (K × Value)} {D : List (K × List Int)} (h : DL tl kvs D) (hl : (l, listOf vs.toArray n) ∈ tl) (hi : IntsAre vs (lookD D k ++ [a])) :
    DL tl (stored kvs k (.ref l)) (Mine.ins D k a) := by
  unfold stored Mine.ins
  rw [h.any k]
  cases e : D.any (fun q => q.1 = k) with
  | true => simp only [if_true]; exact h.map_ins hl hi
  | false =>
    simp only [Bool.false_eq_true, if_false]
    refine h.snoc hl ?_
    have : (D.find? fun q => q.1 = k) = none := by
      rw [List.find?_eq_none]; intro q hq hk
      have := List.any_eq_false.mp e q hq
      exact this hk
    unfold lookD at hi
    rw [this] at hi
    exact hi
theorem isDict_nil {prog : Program} {w : World} {K' : Type} [DecidableEq K'] {knd : KeyKind prog w K} {knd' : KeyKind prog w K'} {o : Obj} (h : o.IsDictOf knd []) : o.IsDictOf knd' [] := by
  obtain ⟨es, ep, h1, h2, _, h4, _⟩ := h
  have e : es.toList = [] := by
    have := h4.length
    simpa using this
  have e' : es = #[] := by simpa using e
  subst e'
  exact ⟨#[], ep, h1, h2, fun e he => by simp at he, .nil, List.nodup_nil⟩
end
def pc (B : List UInt8) (b a : Int) : List UInt8 := (B.drop a.toNat).take b.toNat
def keptAt (B : List UInt8) (b : Int) (i : Nat) : Bool := i == 0 || pc B b (((i - 1 : Nat) : Int) * b) != pc B b ((i : Int) * b)
def DD (B : List UInt8) (b : Int) : Nat → List (List UInt8 × List Int)
  | 0 => []
  | i + 1 => if keptAt B b i then ins (DD B b i) (pc B b ((i : Int) * b)) ((i : Int) * b) else DD B b i
theorem ins_len {K : Type} [DecidableEq K] {D : List (K × List Int)} {k : K} {a : Int} {n : Nat} (h : ∀ q ∈ D, q.2.length ≤ n) : ∀ q ∈ ins D k a, q.2.length ≤ n + 1 := by
  have hl : (lookD D k).length ≤ n := by
    unfold lookD
    cases hf : D.find? (fun q => q.1 = k) with
    | none => simp
    | some q => simpa using h q (List.mem_of_find?_eq_some hf)
  intro q hq
  unfold ins at hq
  split at hq
  · obtain ⟨r, hr, rfl⟩ := List.mem_map.mp hq
    split
    · simp only [List.length_append, List.length_cons, List.length_nil]; omega
    · have := h r hr; omega
  · rcases List.mem_append.mp hq with hq | hq
    · have := h q hq; omega
    · rw [List.mem_singleton.mp hq]; simp
theorem DD_len {B : List UInt8} {b : Int} : ∀ i, ∀ q ∈ DD B b i, q.2.length ≤ i
  | 0 => fun _ h => (nomatch h)
  | i + 1 => by
    intro q hq
    unfold DD at hq
    split at hq
    · exact ins_len (DD_len i) q hq
    · have := DD_len i q hq; omega
theorem stored_len {K : Type} [DecidableEq K] (kvs : List (K × Value)) (k : K) (v : Value) : (stored kvs k v).length ≤ kvs.length + 1 := stored_length_le kvs k v
def nbk (len b : Int) : Nat := (Builtin.Range.rangeSize 0 (len - b + 1) b).toNat
theorem nbk_is {len b : Int} (hb : 1 ≤ b) (hl : 0 ≤ len) : Builtin.Range.rangeSize 0 (len - b + 1) b = (nbk len b : Int) := by
  unfold nbk
  have : 0 ≤ Builtin.Range.rangeSize 0 (len - b + 1) b := by
    unfold Builtin.Range.rangeSize
    rw [if_pos (by omega)]
    split
    · have := Int.ediv_nonneg (a := len - b + 1 - 0 - 1) (b := b) (by omega) (by omega); omega
    · omega
  omega
theorem nbk_lt {len b : Int} {i : Nat} (hb : 1 ≤ b) (h : i < nbk len b) : (i : Int) * b + b ≤ len := by
  unfold nbk Builtin.Range.rangeSize at h
  rw [if_pos (by omega)] at h
  split at h
  · have h1 : (i : Int) ≤ (len - b + 1 - 0 - 1) / b := by omega
    have h2 := Int.mul_le_of_le_ediv (by omega) h1
    omega
  · simp at h
theorem nbk_le {len b : Int} (hb : 1 ≤ b) (hl : 0 ≤ len) : (nbk len b : Int) ≤ len := by
  by_cases h : nbk len b = 0
  · omega
  · have := nbk_lt (len := len) (i := nbk len b - 1) hb (by omega)
    have h2 : ((nbk len b - 1 : Nat) : Int) * 1 ≤ ((nbk len b - 1 : Nat) : Int) * b := Int.mul_le_mul_of_nonneg_left hb (by omega)
    omega
theorem pick_pc {O : Array UInt8} {b a : Int} (ha : 0 ≤ a) (hb : 0 ≤ b) : (KBy.picked O (some a) (some (a + b))).toList = pc O.toList b a := by
  rw [KBc.picked_eq]
  show (O.toList.drop (clipAt O.size a)).take (clipAt O.size (a + b) - clipAt O.size a) = _
  unfold pc
  obtain ⟨x, rfl⟩ := Int.eq_ofNat_of_zero_le ha
  obtain ⟨y, rfl⟩ := Int.eq_ofNat_of_zero_le hb
  have hs : O.size = O.toList.length := rfl
  rw [← Int.natCast_add, clipAt_nat, clipAt_nat, Int.toNat_natCast, Int.toNat_natCast, hs]
  exact tdc O.toList x y
theorem small_ok {len c : Int} (h1 : 0 ≤ len) (h2 : len ≤ 1000) (h5 : 1 ≤ c) (h6 : c ≤ 1000) : Builtin.Range.small 0 (len - c + 1) c = true := by
  have h7 := nbk_le (len := len) h5 h1
  unfold Builtin.Range.small
  rw [nbk_is h5 h1]
  rw [if_pos (by omega)]
  simp only [Builtin.Range.rangeFitsLong, Bool.and_eq_true, Bool.or_eq_true, decide_eq_true_eq, beq_iff_eq]
  omega
end Mine
namespace Mine
theorem map_inj {α β : Type} {f : α → β} : ∀ {l : List α}, (l.map f).Nodup → ∀ {a b : α}, a ∈ l → b ∈ l → f a = f b → a = b
  | [], _, _, _, h, _, _ => nomatch h
  | x :: r, hn, a, b, ha, hb, e => by
    rw [List.map_cons, List.nodup_cons] at hn
    rcases List.mem_cons.mp ha with h1 | h1 <;> rcases List.mem_cons.mp hb with h2 | h2
    · rw [h1, h2]
    · exact absurd (List.mem_map.mpr ⟨b, h2, by rw [← e, h1]⟩) hn.1
    · exact absurd (List.mem_map.mpr ⟨a, h1, by rw [e, h2]⟩) hn.1
    · exact map_inj hn.2 h1 h2 e
section
variable {K : Type} [DecidableEq K]
theorem valueAt_mem {kvs : List (K × Value)} {k : K} {v : Value} (h : valueAt kvs k = some v) : (k, v) ∈ kvs := by
  unfold valueAt at h
  cases hf : kvs.find? (fun kv => kv.1 = k) with
  | none => rw [hf] at h; cases h
  | some p =>
    rw [hf] at h
    have h1 := List.mem_of_find?_eq_some hf
    have h2 := List.find?_some hf
    have h3 : p.1 = k := by simpa using h2
    have h4 : p.2 = v := by simpa using h
    rw [← h3, ← h4]; exact h1
theorem DL.same {tl tl' : List (Addr × Obj)} {k : K} {l : Addr} {vs' : List Value} {n' : Nat} {xs : List Int} (hnew : (l, listOf vs'.toArray n') ∈ tl') (hi : IntsAre vs' xs) (hsub : ∀ p ∈ tl, p.1 ≠ l → p ∈ tl') : ∀ {kvs : List (K × Value)} {D : List (K × List Int)}, DL tl kvs D →
    (∀ p ∈ kvs, p.1 = k → p.2 = .ref l) → (∀ p ∈ kvs, p.1 ≠ k → p.2 ≠ .ref l) → DL tl' kvs (D.map fun q => if q.1 = k then (q.1, xs) else q)
  | [], [], _, _, _ => trivial
  | p :: r, q :: s, ⟨⟨h1, l0, vs, n, h2, h3, h4⟩, h5⟩, ha, hb => by
    refine ⟨?_, DL.same hnew hi hsub h5 (fun p hp => ha p (.tail _ hp)) (fun p hp => hb p (.tail _ hp))⟩
    dsimp only
    by_cases e : q.1 = k
    · rw [if_pos e]
      exact ⟨h1, l, vs', n', ha p (.head _) (h1.trans e), hnew, hi⟩
    · rw [if_neg e]
      refine ⟨h1, l0, vs, n, h2, hsub _ h3 (fun e2 => ?_), h4⟩
      exact hb p (.head _) (fun h => e (h1.symm.trans h)) (by rw [h2]; exact congrArg Value.ref e2)
  | [], _ :: _, h, _, _ => h.elim
  | _ :: _, [], h, _, _ => h.elim
theorem DL.app {tl tl' : List (Addr × Obj)} {k : K} {a : Int} {l : Addr} {vs' : List Value} {n' : Nat} {kvs : List (K × Value)} {D : List (K × List Int)} (h : DL tl kvs D) (hkn : (kvs.map (·.1)).Nodup) (hvn : (kvs.map (·.2)).Nodup) (hv : valueAt kvs k = some (.ref l))
    (hnew : (l, listOf vs'.toArray n') ∈ tl') (hi : IntsAre vs' (lookD D k ++ [a])) (hsub : ∀ p ∈ tl, p.1 ≠ l → p ∈ tl') : DL tl' kvs (Mine.ins D k a) := by
  have hm := valueAt_mem hv
  unfold Mine.ins
  rw [if_pos]
  · refine h.same hnew hi hsub (fun p hp e => ?_) (fun p hp e1 e2 => ?_)
    · have := map_inj hkn hp hm e
      rw [this]
    · have := map_inj hvn hp hm e2
      rw [this] at e1; exact e1 rfl
  · rw [← h.any k]
    exact List.any_eq_true.mpr ⟨_, hm, by simp⟩
end
def val (ks : List Int) (b : Int) (i : Nat) : Int := ofsum ((ks.drop ((i : Int) * b).toNat).take b.toNat)
def keptV (ks : List Int) (b : Int) (i : Nat) : Bool := i == 0 || val ks b (i - 1) != val ks b i
def PP (ks : List Int) (b : Int) : Nat → List (Int × List Int)
  | 0 => []
  | i + 1 => if keptV ks b i then ins (PP ks b i) (val ks b i) ((i : Int) * b) else PP ks b i
theorem PP_kept {ks : List Int} {b : Int} {i : Nat} (h : keptV ks b i = true) : PP ks b (i + 1) = ins (PP ks b i) (val ks b i) ((i : Int) * b) := by
  show (if keptV ks b i then _ else _) = _
  rw [h]; rfl
theorem PP_not {ks : List Int} {b : Int} {i : Nat} (h : keptV ks b i = false) : PP ks b (i + 1) = PP ks b i := by
  show (if keptV ks b i then _ else _) = _
  rw [h]; rfl
theorem PP_len {ks : List Int} {b : Int} : ∀ i, ∀ q ∈ PP ks b i, q.2.length ≤ i
  | 0 => fun _ h => (nomatch h)
  | i + 1 => by
    intro q hq
    unfold PP at hq
    split at hq
    · exact ins_len (PP_len i) q hq
    · have := PP_len i q hq; omega
def LastIs (ks : List Int) (b : Int) (i : Nat) (v : Value) : Prop := (i = 0 ∧ v = .none) ∨ (1 ≤ i ∧ ∃ t, v = .int (val ks b (i - 1)) t)
theorem keptV_zero {ks : List Int} {b : Int} : keptV ks b 0 = true := rfl
theorem keptV_ne {ks : List Int} {b : Int} {i : Nat} (hi : 1 ≤ i) (h : val ks b i ≠ val ks b (i - 1)) : keptV ks b i = true := by
  unfold keptV
  have : (val ks b (i - 1) != val ks b i) = true := by simp [Ne.symm h]
  rw [this, Bool.or_true]
theorem keptV_eq {ks : List Int} {b : Int} {i : Nat} (hi : 1 ≤ i) (h : val ks b i = val ks b (i - 1)) : keptV ks b i = false := by
  unfold keptV
  have h1 : (i == 0) = false := by simp; omega
  rw [h, h1]; simp
end Mine
namespace Mine
theorem DL.vals {K : Type} [DecidableEq K] {tl : List (Addr × Obj)} : ∀ {kvs : List (K × Value)} {D : List (K × List Int)}, DL tl kvs D → ∀ v ∈ kvs.map (·.2), ∃ l o, v = .ref l ∧ (l, o) ∈ tl
  | [], [], _, v, h => nomatch h
  | p :: r, q :: s, ⟨⟨h1, l, vs, n, h2, h3, h4⟩, h5⟩, v, h => by
    rcases List.mem_cons.mp h with rfl | h
    · exact ⟨l, _, h2, h3⟩
    · exact DL.vals h5 v h
  | [], _ :: _, h, _, _ => h.elim
  | _ :: _, [], h, _, _ => h.elim
theorem vals_new {K : Type} [DecidableEq K] {tl : List (Addr × Obj)} {kvs : List (K × Value)} {D : List (K × List Int)} {k : K} {lz : Addr} (h : DL tl kvs D) (hn : (kvs.map (·.2)).Nodup) (hlt : ∀ p ∈ tl, p.1 < lz) (hv : valueAt kvs k = none) : ((stored kvs k (.ref lz)).map (·.2)).Nodup := by
  rw [stored_absent hv, List.map_append]
  rw [List.nodup_append]
  refine ⟨hn, by simp, ?_⟩
  intro a ha b hb
  simp only [List.map_cons, List.map_nil, List.mem_singleton] at hb
  subst hb
  obtain ⟨l, o, rfl, hm⟩ := h.vals a ha
  intro e
  have := hlt _ hm
  injection e with e
  rw [e] at this
  exact absurd this (Nat.lt_irrefl _)
section
variable {a1 a2 a3 a4 a5 a6 a7 a8 dd z : Addr × Obj} {tl tl' news own : List (Addr × Obj)}
theorem pl_sub1 : ∀ p ∈ a1 :: a2 :: a3 :: a4 :: a5 :: a6 :: a7 :: a8 :: dd :: ((z :: tl) ++ news), p ∈ z :: a1 :: a2 :: a3 :: a4 :: a5 :: a6 :: a7 :: a8 :: dd :: (tl ++ news ++ own) := by
  intro p hp; simp only [List.mem_cons, List.mem_append, List.cons_append] at hp ⊢; grind
theorem pl_own1 : ∀ p ∈ own, p ∈ z :: a1 :: a2 :: a3 :: a4 :: a5 :: a6 :: a7 :: a8 :: dd :: (tl ++ news ++ own) := by
  intro p hp; simp only [List.mem_cons, List.mem_append] at hp ⊢; grind
theorem pl_sub2 : ∀ p ∈ a1 :: a2 :: a3 :: a4 :: a5 :: a6 :: a7 :: a8 :: dd :: ((z :: tl) ++ news), p ∈ a1 :: a2 :: a3 :: a4 :: a5 :: a6 :: a7 :: a8 :: dd :: z :: (tl ++ news ++ own) := by
  intro p hp; simp only [List.mem_cons, List.mem_append, List.cons_append] at hp ⊢; grind
theorem pl_own2 : ∀ p ∈ own, p ∈ a1 :: a2 :: a3 :: a4 :: a5 :: a6 :: a7 :: a8 :: dd :: z :: (tl ++ news ++ own) := by
  intro p hp; simp only [List.mem_cons, List.mem_append] at hp ⊢; grind
theorem pl_sub3 : ∀ p ∈ a1 :: a2 :: a3 :: a4 :: a5 :: a6 :: a7 :: a8 :: dd :: (tl ++ news), p ∈ a1 :: a2 :: a3 :: a4 :: a5 :: a6 :: a7 :: a8 :: dd :: (tl ++ news ++ own) := by
  intro p hp; simp only [List.mem_cons, List.mem_append] at hp ⊢; grind
theorem pl_own3 : ∀ p ∈ own, p ∈ a1 :: a2 :: a3 :: a4 :: a5 :: a6 :: a7 :: a8 :: dd :: (tl ++ news ++ own) := by
  intro p hp; simp only [List.mem_cons, List.mem_append] at hp ⊢; grind
theorem pl_pull {l : Addr} (hz : z ∈ tl) : ∀ p ∈ a1 :: a2 :: a3 :: a4 :: a5 :: a6 :: a7 :: a8 :: dd :: z :: (tl.filter (fun p => decide (p.1 ≠ l)) ++ news ++ own), p ∈ a1 :: a2 :: a3 :: a4 :: a5 :: a6 :: a7 :: a8 :: dd :: (tl ++ news ++ own) := by
  intro p hp; simp only [List.mem_cons, List.mem_append, List.mem_filter] at hp ⊢; grind
theorem pl_ne {I : Addr} {b2 bd : Addr × Obj} (hI : ∀ p ∈ a1 :: a2 :: a3 :: a4 :: a5 :: a6 :: a7 :: a8 :: dd :: (tl ++ news), p.1 ≠ I) (h2 : b2.1 = a2.1) (hd : bd.1 = dd.1) (ht : ∀ p ∈ tl', p.1 ≠ I) :
    ∀ p ∈ a1 :: b2 :: a3 :: a4 :: a5 :: a6 :: a7 :: a8 :: bd :: (tl' ++ news), p.1 ≠ I := by
  intro p hp
  have e2 := hI a2 (by simp)
  have ed := hI dd (by simp)
  simp only [List.mem_cons, List.mem_append] at hp hI
  grind
end
theorem off_all {L d I : Addr} {tl news own : List (Addr × Obj)} (hn : ∀ p ∈ news, p.1 < L) (ht : ∀ p ∈ tl, d < p.1) (hd : @LT.lt Nat _ (L + 4) d) (ho : ∀ p ∈ own, p.1 = I) (hI : @LT.lt Nat _ I L ∨ @LT.lt Nat _ (L + 4) I) : ∀ p ∈ tl ++ news ++ own, @LT.lt Nat _ p.1 L ∨ @LT.lt Nat _ (L + 4) p.1 := by
  intro p hp
  simp only [List.mem_append] at hp
  rcases hp with (hp | hp) | hp
  · right; exact Nat.lt_trans hd (ht p hp)
  · left; exact hn p hp
  · rw [ho p hp]; exact hI
theorem off_d {L d I : Addr} {tl news own : List (Addr × Obj)} (hn : ∀ p ∈ news, p.1 < L) (ht : ∀ p ∈ tl, d < p.1) (hd : @LT.lt Nat _ (L + 4) d) (ho : ∀ p ∈ own, p.1 = I) (hI : d ≠ I) : ∀ p ∈ tl ++ news ++ own, p.1 ≠ d := by
  intro p hp
  simp only [List.mem_append] at hp
  rcases hp with (hp | hp) | hp
  · exact Nat.ne_of_gt (ht p hp)
  · have := hn p hp
    exact Nat.ne_of_lt (Nat.lt_trans this (Nat.lt_of_le_of_lt (Nat.le_add_right _ _) hd))
  · rw [ho p hp]; exact hI.symm
theorem side_of {I L : Nat} (h0 : L ≠ I) (h1 : L + 1 ≠ I) (h2 : L + 2 ≠ I) (h3 : L + 3 ≠ I) (h4 : L + 4 ≠ I) : I < L ∨ L + 4 < I := by
  rcases Nat.lt_or_ge I L with h | h
  · exact .inl h
  · exact .inr (Nat.lt_of_le_of_ne (Nat.lt_of_le_of_ne (Nat.lt_of_le_of_ne (Nat.lt_of_le_of_ne (Nat.lt_of_le_of_ne h h0) h1) h2) h3) h4)
theorem own_side {h₀ h : Heap} {L I : Addr} {oI : Obj} {led : List (Addr × Obj)} (N : News h₀ L h led) (hm : (I, oI) ∈ led) (h1 : L + 1 ≠ I) (h2 : L + 1 + 1 ≠ I) (h3 : L + 1 + 1 + 1 ≠ I) (h4 : L + 1 + 1 + 1 + 1 ≠ I) : @LT.lt Nat _ I L ∨ @LT.lt Nat _ (L + 4) I :=
  side_of (neN (N _ hm).2.1).symm (neN h1) (neN h2) (neN h3) (neN h4)
end Mine
namespace Mine
def cap (mo : Int) (l : List Int) : List Int := if mo < l.length then (List.range mo.toNat).map (fun (k : Nat) => l.getD (Int.fdiv ((k : Int) * l.length) mo).toNat 0) else l
def capD (mo : Int) (S : List Int) (D : List (Int × List Int)) : List (Int × List Int) := D.map fun q => (q.1, if S.contains q.1 then cap mo q.2 else q.2)
theorem cap_len {mo : Int} {l : List Int} (h : 0 ≤ mo) : ((cap mo l).length : Int) ≤ mo ∨ cap mo l = l := by
  unfold cap
  split
  · left; simp; omega
  · right; rfl
theorem cap_le {mo : Int} {l : List Int} (h : 0 ≤ mo) : ((cap mo l).length : Int) ≤ mo := by
  unfold cap
  split
  · simp; omega
  · omega
theorem cap_small {mo : Int} {l : List Int} (h : (l.length : Int) ≤ mo) : cap mo l = l := by
  unfold cap; rw [if_neg (by omega)]
theorem capD_nil {mo : Int} {D : List (Int × List Int)} : capD mo [] D = D := by
  unfold capD; simp
theorem capD_keys {mo : Int} {S : List Int} {D : List (Int × List Int)} : (capD mo S D).map (·.1) = D.map (·.1) := by
  unfold capD; rw [List.map_map]; rfl
theorem capD_find {mo : Int} {S : List Int} {D : List (Int × List Int)} {v : Int} {xs : List Int} (h : ((capD mo S D).find? fun q => q.1 = v) = some (v, xs)) : ∃ ys, (v, ys) ∈ D ∧ xs = if S.contains v then cap mo ys else ys := by
  have h1 := List.mem_of_find?_eq_some h
  unfold capD at h1
  obtain ⟨q, hq, e⟩ := List.mem_map.mp h1
  injection e with e1 e2
  subst e1
  exact ⟨q.2, hq, e2.symm⟩
theorem capD_step {mo : Int} {S : List Int} {D : List (Int × List Int)} {v : Int} {ys : List Int} (hn : (D.map (·.1)).Nodup) (hm : (v, ys) ∈ D) : capD mo (S ++ [v]) D = (capD mo S D).map fun q => if q.1 = v then (q.1, cap mo ys) else q := by
  unfold capD
  rw [List.map_map]
  apply List.map_congr_left
  intro q hq
  simp only [Function.comp_apply]
  by_cases e : q.1 = v
  · have : q = (v, ys) := map_inj hn hq hm e
    subst this
    simp
  · rw [if_neg e]
    have : (S ++ [v]).contains q.1 = S.contains q.1 := by
      simp [e]
    rw [this]
theorem capD_same {mo : Int} {S : List Int} {D : List (Int × List Int)} {v : Int} {ys : List Int} (h0 : 0 ≤ mo) (hn : (D.map (·.1)).Nodup) (hm : (v, ys) ∈ D) (hl : ((if S.contains v then cap mo ys else ys : List Int).length : Int) ≤ mo) : capD mo (S ++ [v]) D = capD mo S D := by
  unfold capD
  apply List.map_congr_left
  intro q hq
  by_cases e : q.1 = v
  · have : q = (v, ys) := map_inj hn hq hm e
    subst this
    by_cases hs : S.contains v = true
    · have hs2 : v ∈ S := by simpa using hs
      simp [hs2]
    · rw [if_neg hs] at hl
      rw [cap_small hl]; simp
  · have : (S ++ [v]).contains q.1 = S.contains q.1 := by
      simp [e]
    rw [this]
theorem capD_all {mo : Int} {S : List Int} {D : List (Int × List Int)} (h : ∀ q ∈ D, q.1 ∈ S) : capD mo S D = D.map fun q => (q.1, cap mo q.2) := by
  unfold capD
  apply List.map_congr_left
  intro q hq
  rw [if_pos]
  simpa using h q hq
end Mine
namespace Mine
theorem capD_has {mo : Int} {S sk : List Int} {D : List (Int × List Int)} {j : Nat} {v : Int} (hp : sk.Perm (D.map (·.1))) (hx : sk[j]? = some v) : ((capD mo S D).find? fun q => q.1 = v) ≠ none := by
  intro h
  rw [List.find?_eq_none] at h
  have h1 : v ∈ D.map (·.1) := hp.mem_iff.mp (List.mem_of_getElem? hx)
  obtain ⟨q, hq, e⟩ := List.mem_map.mp h1
  exact h (q.1, if S.contains q.1 then cap mo q.2 else q.2) (List.mem_map.mpr ⟨q, hq, rfl⟩) (by simpa using e)
theorem cap_len2 {mo : Int} {l : List Int} (h : 0 ≤ mo) : (cap mo l).length ≤ l.length := by
  unfold cap
  split
  · simp; omega
  · omega
end Mine
namespace Mine
theorem stored_there {K : Type} [DecidableEq K] {kvs : List (K × Value)} {k : K} {x v : Value} (h : valueAt kvs k = some x) : stored kvs k v = kvs.map (fun kv => if kv.1 = k then (kv.1, v) else kv) := by
  unfold stored
  rw [if_pos]
  exact List.any_eq_true.mpr ⟨_, valueAt_mem h, by simp⟩
theorem DL.store {K : Type} [DecidableEq K] {tl : List (Addr × Obj)} {k : K} {l : Addr} {vs : List Value} {n : Nat} {xs : List Int} {x : Value} {kvs : List (K × Value)} {D : List (K × List Int)} (h : DL tl kvs D) (hv : valueAt kvs k = some x) (hl : (l, listOf vs.toArray n) ∈ tl) (hi : IntsAre vs xs) :
    DL tl (stored kvs k (.ref l)) (D.map fun q => if q.1 = k then (q.1, xs) else q) := by
  rw [stored_there hv]
  exact h.map_ins hl hi
theorem cap_rangeKs {bu : Int} {xs : List Int} (h0 : 0 ≤ bu) (h : bu < (xs.length : Int)) : (rangeKs 0 (Int.toNat (bu - 0))).map (fun k => xs.getD (Int.fdiv (k * (xs.length : Int)) bu).toNat 0) = cap bu xs := by
  unfold cap rangeKs
  rw [if_pos h, List.map_map, Int.sub_zero]
  apply List.map_congr_left
  intro i _
  simp only [Function.comp_apply, Int.zero_add]
end Mine
namespace Mine
theorem all_ne {d : Addr} {news : List (Addr × Obj)} (h : ∀ p ∈ news, p.1 < d) : ∀ p ∈ news, p.1 ≠ d := fun p hp => Nat.ne_of_lt (h p hp)
local macro_rules | `(tactic| k_all) => `(tactic| exact all_ne (by assumption))
def wpow : Nat → Int
  | 0 => 1
  | k + 1 => Int.fmod (wpow k * 263) 2147483647
theorem wpow_range (k : Nat) : 0 ≤ wpow k ∧ wpow k < 2147483647 := by
  cases k with
  | zero => decide
  | succ k => exact ⟨fmod_lo _ (by decide), fmod_hi _ (by decide)⟩
local macro_rules | `(tactic| walk_at $x:str) => if ["pyIter ref"].contains x.getString then `(tactic| refine Hold.out ?_) else Lean.Macro.throwUnsupported
theorem news_swap2 {h₀ h : Heap} {L : Addr} {p q : Addr × Obj} {news : List (Addr × Obj)} (N : News h₀ L h (p :: q :: news)) : News h₀ L h (news ++ [p, q]) := fun r hr => N r (by
  rcases List.mem_append.mp hr with h | h
  · exact .tail _ (.tail _ h)
  · rcases List.mem_cons.mp h with rfl | h
    · exact .head _
    · exact .tail _ (by rw [List.mem_singleton.mp h]; exact .head _))
theorem lt_two {x d : Addr} {o o' : Obj} {news : List (Addr × Obj)} (h : ∀ p ∈ news, p.1 < d) (h2 : @LT.lt Nat _ d x) : ∀ q ∈ news, ∀ p ∈ [(x, o), (d, o')], q.1 < p.1 := fun q hq p hp => by
  rcases List.mem_cons.mp hp with rfl | hp
  · exact Nat.lt_trans (h q hq) h2
  · rw [List.mem_singleton.mp hp]; exact h q hq
theorem wp_zero : (1 : Int) = wpow ([] : List Int).length ∧ (0 : Int) ≤ 1 ∧ (1 : Int) < 2147483647 := by decide
theorem wp_step {f k : Int} {pre : List Int} (h : f = wpow pre.length) : Int.fmod (f * 263) 2147483647 = wpow (pre ++ [k]).length ∧ 0 ≤ Int.fmod (f * 263) 2147483647 ∧ Int.fmod (f * 263) 2147483647 < 2147483647 := by
  subst h; rw [List.length_append]; exact ⟨rfl, fmod_lo _ (by decide), fmod_hi _ (by decide)⟩
set_option maxHeartbeats 8000000 in
theorem c_sum (w : World) (news : List (Addr × Obj)) (t1 : Tok) (b : Int)
   (hb : 1 ≤ b ∧ b < 1000)  :
   CtrL 8 w 45 [.int b t1] news
     (fun r tl => ∃ x dx n h1 h2 k1 k2 tb tw wt, r = .ref x ∧ wt = wpow (b - 1).toNat ∧ tl = [(x, instObj 45 dx), (dx, dictOf [⟨h1, .str "block" k1, .int b tb⟩, ⟨h2, .str "weight" k2, .int wt tw⟩] n)]) := by
  w_top off; unfold CtrL; k_fill; intro mean mg mb dp un gd cn cs a ccd cl outer A₀ base h₀ L m s Q E B F X N T hk hd hu hret
  k_dflt (refine' call_cls (fI := 28) F X N ?k4 ?k5 ?k6 ?_; (case k4 => k_is); (case k5 => k_is); (case k6 => k_is))
  intro x' d' h' F' N' l1 l2
  k_lt2 l2
  k_dflt cell_enter
  k_steps
  refine Hold.mk ?_
  k_with "state" => (first | exact wp_zero | exact wp_step (by assumption))
  k_state (fun pre f => f = wpow pre.length ∧ 0 ≤ f ∧ f < 2147483647) "weight"
  k_steps
  exact hret _ [(x', _), (d', _)] _ _ (by k_asm) (news_swap2 (by k_asm)) (fun q hq p hp => Nat.ne_of_lt (lt_two l1 l2 q hq p hp)) ⟨_, _, _, _, _, _, _, _, _, _, rfl, (by rename _ = wpow _ => e; rw [rangeKs_length] at e; exact e.trans (by rw [Int.sub_zero])), rfl⟩
end Mine
namespace Mine
def cpl : List Int → List Int → Nat
  | a :: r, b :: q => if a = b then cpl r q + 1 else 0
  | _, _ => 0
def Same (ks ps : List Int) (a b : Nat) (k : Nat) : Prop := ∀ j : Nat, j < k → a + j < ks.length ∧ b + j < ps.length ∧ ks.getD (a + j) 0 = ps.getD (b + j) 0
theorem getD_of {l : List Int} {a : Nat} (h : a < l.length) : l.getD a 0 = l[a] := by rw [List.getD_eq_getElem?_getD, List.getElem?_eq_getElem h]; rfl
theorem cpl_of : ∀ (k : Nat) (ks ps : List Int) (a b : Nat), Same ks ps a b k → (ks.length ≤ a + k ∨ ps.length ≤ b + k ∨ ks.getD (a + k) 0 ≠ ps.getD (b + k) 0) → cpl (ks.drop a) (ps.drop b) = k
  | 0, ks, ps, a, b, _, he => by
    by_cases h1 : a < ks.length
    · by_cases h2 : b < ps.length
      · rw [List.drop_eq_getElem_cons h1, List.drop_eq_getElem_cons h2]
        refine if_neg ?_
        rcases he with h | h | h
        · exact absurd h1 (Nat.not_lt.mpr h)
        · exact absurd h2 (Nat.not_lt.mpr h)
        · rw [← getD_of h1, ← getD_of h2]; exact h
      · rw [List.drop_eq_nil_of_le (Nat.not_lt.mp h2)]
        cases List.drop a ks <;> rfl
    · rw [List.drop_eq_nil_of_le (Nat.not_lt.mp h1)]
      rfl
  | k + 1, ks, ps, a, b, hs, he => by
    obtain ⟨h1', h2', h3⟩ := hs 0 (Nat.succ_pos k)
    have h1 : a < ks.length := h1'
    have h2 : b < ps.length := h2'
    have h4 : ks.getD a 0 = ps.getD b 0 := h3
    rw [getD_of h1, getD_of h2] at h4
    rw [List.drop_eq_getElem_cons h1, List.drop_eq_getElem_cons h2]
    refine (if_pos h4).trans (congrArg (· + 1) ?_)
    refine cpl_of k ks ps (a + 1) (b + 1) (fun j hj => ?_) ?_
    · rw [Nat.add_assoc, Nat.add_assoc, Nat.add_comm 1 j]; exact hs (j + 1) (Nat.succ_lt_succ hj)
    · rw [Nat.add_assoc, Nat.add_assoc, Nat.add_comm 1 k]; exact he
theorem same_zero {ks ps : List Int} {a b : Nat} : Same ks ps a b 0 := fun _ h => absurd h (Nat.not_lt_zero _)
theorem same_more {ks ps : List Int} {a b k : Nat} (h : Same ks ps a b k) (h1 : a + k < ks.length) (h2 : b + k < ps.length) (h3 : ks.getD (a + k) 0 = ps.getD (b + k) 0) : Same ks ps a b (k + 1) := by
  intro j hj
  rcases Nat.lt_or_eq_of_le (Nat.le_of_lt_succ hj) with e | rfl
  · exact h j e
  · exact ⟨h1, h2, h3⟩
theorem same_step {ks ps : List Int} {a b k : Int} (ha : 0 ≤ a) (hb : 0 ≤ b) (h0 : 0 ≤ k) (h : Same ks ps a.toNat b.toNat k.toNat) (h1 : a + k < ks.length) (h2 : b + k < ps.length) (h3 : ks.getD (a + k).toNat 0 = ps.getD (b + k).toNat 0) : Same ks ps a.toNat b.toNat (k + 1).toNat := by
  obtain ⟨a, rfl⟩ := Int.eq_ofNat_of_zero_le ha
  obtain ⟨b, rfl⟩ := Int.eq_ofNat_of_zero_le hb
  obtain ⟨k, rfl⟩ := Int.eq_ofNat_of_zero_le h0
  exact same_more (a := a) (b := b) (k := k) h (Int.ofNat_lt.mp h1) (Int.ofNat_lt.mp h2) h3
theorem same_end {ks ps : List Int} {a b k : Int} (ha : 0 ≤ a) (hb : 0 ≤ b) (h0 : 0 ≤ k) (h : Same ks ps a.toNat b.toNat k.toNat) (he : ¬ a + k < ks.length ∨ ¬ b + k < ps.length ∨ ¬ ks.getD (a + k).toNat 0 = ps.getD (b + k).toNat 0) : k = (cpl (ks.drop a.toNat) (ps.drop b.toNat) : Nat) := by
  obtain ⟨a, rfl⟩ := Int.eq_ofNat_of_zero_le ha
  obtain ⟨b, rfl⟩ := Int.eq_ofNat_of_zero_le hb
  obtain ⟨k, rfl⟩ := Int.eq_ofNat_of_zero_le h0
  exact congrArg Nat.cast (cpl_of k ks ps a b h (he.imp (fun h => Int.ofNat_le.mp (Int.not_lt.mp h)) (Or.imp (fun h => Int.ofNat_le.mp (Int.not_lt.mp h)) id))).symm
local macro_rules | `(tactic| walk_at $x:str) => if ["exec While"].contains x.getString then `(tactic| refine Hold.out ?_) else Lean.Macro.throwUnsupported
local macro_rules | `(tactic| walk_at $x:str) => if ["exec While"].contains x.getString then `(tactic| refine Hold.out ?_) else Lean.Macro.throwUnsupported
set_option maxHeartbeats 8000000 in
theorem c_same (w : World) (news : List (Addr × Obj)) (t1 t2 t3 t4 : Tok) (O P : Array UInt8) (ks ps : List Int) (a' b' : Int)
   (hO : KBw.bInts O = ks) (hP : KBw.bInts P = ps) (hks : ks.length ≤ 100) (hps : ps.length ≤ 100) (ha : 0 ≤ a' ∧ a' < 1000) (hb : 0 ≤ b' ∧ b' < 1000) :
   CtrL 8 w 118 [.bytes O t1, .int a' t2, .bytes P t3, .int b' t4] news
     (fun r tl => tl = [] ∧ ∃ t, r = .int (cpl (ks.drop a'.toNat) (ps.drop b'.toNat)) t) := by
  w_top off; unfold CtrL; k_fill; intro mean mg mb dp un gd cn cs a ccd cl outer A₀ base h₀ L m s Q E B F X N T hk hd hu hret; refine wpAny_call ?_; k_dflt cell_enter
  k_steps
  refine Hold.mk ?_
  k_with "state" => (first | exact ⟨Int.le_refl 0, Int.natCast_nonneg _, same_zero⟩ | exact ⟨by omega, by omega, same_step ha.1 hb.1 (by assumption) (by assumption) (by assumption) (by assumption) (by assumption)⟩)
  k_while (fun _ k => 0 ≤ k ∧ k ≤ ks.length ∧ Same ks ps a'.toNat b'.toNat k.toNat) (fun _ k => (101 - k).toNat) "many"
  k_steps
  all_goals exact hret _ [] _ _ (by k_asm) (by first | k_asm | (simp only [List.append_nil]; k_asm)) (fun _ _ _ h9 => nomatch h9) ⟨rfl, val_ex (same_end ha.1 hb.1 (by assumption) (by assumption) (by first | exact .inl (by assumption) | exact .inr (.inl (by assumption)) | exact .inr (.inr (by assumption))))⟩
end Mine
namespace Mine
local macro_rules | `(tactic| walk_at $x:str) => if ["exec While"].contains x.getString then `(tactic| refine Hold.out ?_) else Lean.Macro.throwUnsupported
def bkl (ks ps : List Int) (p a l : Nat) : Nat := cpl (ks.take p).reverse ((ps.take a).drop l).reverse
theorem rev_get {ks : List Int} {p j : Nat} (hp : p ≤ ks.length) (hj : j < p) : (ks.take p).reverse.getD j 0 = ks.getD (p - j - 1) 0 := by
  have hl : (ks.take p).length = p := by rw [List.length_take, Nat.min_eq_left hp]
  have hj' : p - 1 - j < p := Nat.lt_of_le_of_lt (Nat.sub_le _ _) (Nat.sub_lt (Nat.lt_of_le_of_lt (Nat.zero_le j) hj) Nat.one_pos)
  rw [List.getD_eq_getElem?_getD, List.getD_eq_getElem?_getD, List.getElem?_reverse (hl.symm ▸ hj), hl, List.getElem?_take, if_pos hj', Nat.sub_right_comm]
theorem rev_get2 {ps : List Int} {a l j : Nat} (ha : a ≤ ps.length) (hl : l ≤ a) (hj : j < a - l) : ((ps.take a).drop l).reverse.getD j 0 = ps.getD (a - j - 1) 0 := by
  have hl : ((ps.take a).drop l).length = a - l := by rw [List.length_drop, List.length_take, Nat.min_eq_left ha]
  have h1 : l + (a - l - 1 - j) = a - j - 1 := by omega
  have h2 : a - j - 1 < a := by omega
  rw [List.getD_eq_getElem?_getD, List.getD_eq_getElem?_getD, List.getElem?_reverse (hl.symm ▸ hj), hl, List.getElem?_drop, List.getElem?_take, h1, if_pos h2]
def BackS (ks ps : List Int) (p a l k : Nat) : Prop := Same (ks.take p).reverse ((ps.take a).drop l).reverse 0 0 k
theorem back_zero {ks ps : List Int} {p a l : Nat} : BackS ks ps p a l 0 := same_zero
section
variable {ks ps : List Int} {p a l k : Nat} (hp : p ≤ ks.length) (ha : a ≤ ps.length)
include hp ha
theorem back_len : (ks.take p).reverse.length = p ∧ ((ps.take a).drop l).reverse.length = a - l := by
  rw [List.length_reverse, List.length_reverse, List.length_drop, List.length_take, List.length_take, Nat.min_eq_left hp, Nat.min_eq_left ha]; exact ⟨rfl, rfl⟩
theorem back_more (hl : l ≤ a) (h : BackS ks ps p a l k) (h1 : k < p) (h2 : k < a - l) (h3 : ks.getD (p - k - 1) 0 = ps.getD (a - k - 1) 0) : BackS ks ps p a l (k + 1) := by
  obtain ⟨e1, e2⟩ := back_len hp ha (l := l)
  refine same_more h ?_ ?_ ?_
  · rw [e1, Nat.zero_add]; exact h1
  · rw [e2, Nat.zero_add]; exact h2
  · rw [Nat.zero_add, rev_get hp h1, rev_get2 ha hl h2]; exact h3
theorem back_stop (hl : l ≤ a) (h : BackS ks ps p a l k) (he : p ≤ k ∨ a - l ≤ k ∨ (k < p ∧ k < a - l ∧ ¬ ks.getD (p - k - 1) 0 = ps.getD (a - k - 1) 0)) : bkl ks ps p a l = k := by
  obtain ⟨e1, e2⟩ := back_len hp ha (l := l)
  have := cpl_of k _ _ 0 0 h
  rw [e1, e2, Nat.zero_add, List.drop_zero, List.drop_zero] at this
  refine this (he.imp id (Or.imp id fun ⟨h1, h2, h⟩ => ?_))
  rw [rev_get hp h1, rev_get2 ha hl h2]
  exact h
end
theorem sub_nat {a k : Nat} (h : k ≤ a) : ((a : Int) - k - 1).toNat = a - k - 1 := by omega
theorem sub_lt_i {a l k : Nat} (h : (l : Int) < a - k) : k < a - l := by omega
theorem sub_ge_i {a l k : Nat} (h : ¬ (l : Int) < a - k) : a - l ≤ k := by omega
theorem pos_lt_i {a k : Nat} (h : (0 : Int) < a - k) : k < a := by omega
theorem pos_ge_i {a k : Nat} (h : ¬ (0 : Int) < a - k) : a ≤ k := by omega
theorem lt_sub_le {a l k : Nat} (h : k < a - l) : k ≤ a := by omega
section
variable {ks ps : List Int} {p a l k : Int} (hp0 : 0 ≤ p) (hp : p ≤ ks.length) (ha : a ≤ ps.length) (hl0 : 0 ≤ l) (hl : l ≤ a)
include hp0 hp ha hl0 hl
theorem back_step (h0 : 0 ≤ k) (h : BackS ks ps p.toNat a.toNat l.toNat k.toNat) (h1 : 0 < p - k) (h2 : l < a - k) (h3 : ks.getD (p - k - 1).toNat 0 = ps.getD (a - k - 1).toNat 0) : BackS ks ps p.toNat a.toNat l.toNat (k + 1).toNat := by
  obtain ⟨a, rfl⟩ := Int.eq_ofNat_of_zero_le (Int.le_trans hl0 hl)
  obtain ⟨p, rfl⟩ := Int.eq_ofNat_of_zero_le hp0
  obtain ⟨l, rfl⟩ := Int.eq_ofNat_of_zero_le hl0
  obtain ⟨k, rfl⟩ := Int.eq_ofNat_of_zero_le h0
  have h1 := pos_lt_i h1
  have h2 := sub_lt_i h2
  rw [sub_nat (Nat.le_of_lt h1), sub_nat (lt_sub_le h2)] at h3
  exact back_more (Int.ofNat_le.mp hp) (Int.ofNat_le.mp ha) (Int.ofNat_le.mp hl) h h1 h2 h3
theorem back_end (h0 : 0 ≤ k) (hk : k ≤ p) (h : BackS ks ps p.toNat a.toNat l.toNat k.toNat) (he : ¬ 0 < p - k ∨ ¬ l < a - k ∨ (0 < p - k ∧ l < a - k ∧ ¬ ks.getD (p - k - 1).toNat 0 = ps.getD (a - k - 1).toNat 0)) : k = (bkl ks ps p.toNat a.toNat l.toNat : Nat) := by
  obtain ⟨a, rfl⟩ := Int.eq_ofNat_of_zero_le (Int.le_trans hl0 hl)
  obtain ⟨p, rfl⟩ := Int.eq_ofNat_of_zero_le hp0
  obtain ⟨l, rfl⟩ := Int.eq_ofNat_of_zero_le hl0
  obtain ⟨k, rfl⟩ := Int.eq_ofNat_of_zero_le h0
  refine congrArg Nat.cast (back_stop (Int.ofNat_le.mp hp) (Int.ofNat_le.mp ha) (Int.ofNat_le.mp hl) h (he.imp pos_ge_i (Or.imp sub_ge_i fun ⟨h1, h2, h⟩ => ?_))).symm
  have h1 := pos_lt_i h1
  have h2 := sub_lt_i h2
  rw [sub_nat (Nat.le_of_lt h1), sub_nat (lt_sub_le h2)] at h
  exact ⟨h1, h2, h⟩
end
set_option maxHeartbeats 8000000 in
theorem c_back (w : World) (news : List (Addr × Obj)) (t1 t2 t3 t4 t5 : Tok) (O P : Array UInt8) (ks ps : List Int) (p' a' l' : Int)
   (hO : KBw.bInts O = ks) (hP : KBw.bInts P = ps) (hks : ks.length ≤ 100) (hps : ps.length ≤ 100) (hp : 0 ≤ p' ∧ p' ≤ ks.length) (ha : 0 ≤ a' ∧ a' ≤ ps.length) (hl : 0 ≤ l' ∧ l' ≤ a') :
   CtrL 8 w 125 [.bytes O t1, .int p' t2, .bytes P t3, .int a' t4, .int l' t5] news
     (fun r tl => tl = [] ∧ ∃ t, r = .int (bkl ks ps p'.toNat a'.toNat l'.toNat) t) := by
  w_top off; unfold CtrL; k_fill; intro mean mg mb dp un gd cn cs a ccd cl outer A₀ base h₀ L m s Q E B F X N T hk hd hu hret; refine wpAny_call ?_; k_dflt cell_enter
  k_steps
  refine Hold.mk ?_
  k_with "state" => (first | exact ⟨Int.le_refl 0, hp.1, back_zero⟩ | exact ⟨by omega, by omega, back_step hp.1 hp.2 ha.2 hl.1 hl.2 (by assumption) (by assumption) (by assumption) (by assumption) (by assumption)⟩)
  k_while (fun _ k => 0 ≤ k ∧ k ≤ p' ∧ BackS ks ps p'.toNat a'.toNat l'.toNat k.toNat) (fun _ k => (101 - k).toNat) "many"
  k_steps
  all_goals exact hret _ [] _ _ (by k_asm) (by first | k_asm | (simp only [List.append_nil]; k_asm)) (fun _ _ _ h9 => nomatch h9) ⟨rfl, val_ex (back_end hp.1 hp.2 ha.2 hl.1 hl.2 (by assumption) (by assumption) (by assumption) (by first | exact .inl (by assumption) | exact .inr (.inl (by assumption)) | exact .inr (.inr ⟨by assumption, by assumption, by assumption⟩)))⟩
set_option maxHeartbeats 8000000 in
theorem c_grown (w : World) (news : List (Addr × Obj)) (x dx : Addr) (n : Nat) (h1 h2 h3 h4 h5 : Int) (k1 k2 k3 k4 k5 to tb tu : Tok) (b bu : Int) (sv pv : Value) (t2 t3 t4 t5 : Tok) (O P : Array UInt8) (ks ps : List Int) (p' a' l' : Int)
   (hO : KBw.bInts O = ks) (hP : KBw.bInts P = ps) (hks : ks.length ≤ 100) (hps : ps.length ≤ 100) (hp : 0 ≤ p' ∧ p' ≤ ks.length) (ha : 0 ≤ a' ∧ a' ≤ ps.length) (hl : 0 ≤ l' ∧ l' ≤ a') :
   CtrL 8 w 90 [.ref x, .int p' t2, .bytes P t3, .int a' t4, .int l' t5] ((x, instObj 93 dx) :: (dx, dictOf [⟨h1, .str "source" k1, .bytes O to⟩, ⟨h2, .str "block" k2, .int b tb⟩, ⟨h3, .str "bucket" k3, .int bu tu⟩, ⟨h4, .str "sums" k4, sv⟩, ⟨h5, .str "places" k5, pv⟩] n) :: news)
     (fun r tl => tl = [] ∧ ∃ t, r = .int (bkl ks ps p'.toNat a'.toNat l'.toNat) t) := by
  w_top off; unfold CtrL; k_fill; intro mean mg mb dp un gd cn cs a ccd cl outer A₀ base h₀ L m s Q E B F X N T hk hd hu hret; refine wpAny_call ?_; k_dflt cell_enter
  k_steps
  refine Hold.mk ?_
  k_with "state" => (first | exact ⟨Int.le_refl 0, hp.1, back_zero⟩ | exact ⟨by omega, by omega, back_step hp.1 hp.2 ha.2 hl.1 hl.2 (by assumption) (by assumption) (by assumption) (by assumption) (by assumption)⟩)
  k_while (fun _ k => 0 ≤ k ∧ k ≤ p' ∧ BackS ks ps p'.toNat a'.toNat l'.toNat k.toNat) (fun _ k => (101 - k).toNat) "many"
  k_steps
  all_goals exact hret _ [] _ _ (by k_asm) (by first | k_asm | (simp only [List.append_nil]; k_asm)) (fun _ _ _ h9 => nomatch h9) ⟨rfl, val_ex (back_end hp.1 hp.2 ha.2 hl.1 hl.2 (by assumption) (by assumption) (by assumption) (by first | exact .inl (by assumption) | exact .inr (.inl (by assumption)) | exact .inr (.inr ⟨by assumption, by assumption, by assumption⟩)))⟩
end Mine
namespace Mine
local macro_rules | `(tactic| walk_at $x:str) => if ["exec While"].contains x.getString then `(tactic| refine Hold.out ?_) else Lean.Macro.throwUnsupported
local macro_rules | `(tactic| walk_at $x:str) => if ["exec While"].contains x.getString then `(tactic| refine Hold.out ?_) else Lean.Macro.throwUnsupported
theorem alike_step {ks ps : List Int} {a b k : Int} (ha : 0 ≤ a ∧ a ≤ ks.length) (hb : 0 ≤ b ∧ b ≤ ps.length) (h0 : 0 ≤ k) (h : Same ks ps a.toNat b.toNat k.toNat)
    (h1 : k < if (ps.length : Int) - b < (ks.length : Int) - a then (ps.length : Int) - b else (ks.length : Int) - a) (h3 : ks.getD (a + k).toNat 0 = ps.getD (b + k).toNat 0) : 0 ≤ k + 1 ∧ k + 1 ≤ ks.length ∧ Same ks ps a.toNat b.toNat (k + 1).toNat := by
  have h4 : k < (ps.length : Int) - b ∧ k < (ks.length : Int) - a := by split at h1 <;> omega
  exact ⟨by omega, by omega, same_step ha.1 hb.1 h0 h (by omega) (by omega) h3⟩
theorem alike_end {ks ps : List Int} {a b k : Int} (ha : 0 ≤ a ∧ a ≤ ks.length) (hb : 0 ≤ b ∧ b ≤ ps.length) (h0 : 0 ≤ k) (h : Same ks ps a.toNat b.toNat k.toNat)
    (h1 : (¬ k < if (ps.length : Int) - b < (ks.length : Int) - a then (ps.length : Int) - b else (ks.length : Int) - a) ∨ ¬ ks.getD (a + k).toNat 0 = ps.getD (b + k).toNat 0) : k = (cpl (ks.drop a.toNat) (ps.drop b.toNat) : Nat) := by
  refine same_end ha.1 hb.1 h0 h ?_
  rcases h1 with h1 | h1
  · split at h1
    · right; left; omega
    · left; omega
  · exact .inr (.inr h1)
set_option maxHeartbeats 8000000 in
theorem c_alike (w : World) (news : List (Addr × Obj)) (x dx : Addr) (n : Nat) (h1 h2 h3 h4 h5 : Int) (k1 k2 k3 k4 k5 to tb tu : Tok) (b bu : Int) (sv pv : Value) (t2 t3 t4 : Tok) (O P : Array UInt8) (ks ps : List Int) (a' b' : Int)
   (hO : KBw.bInts O = ks) (hP : KBw.bInts P = ps) (hks : ks.length ≤ 100) (hps : ps.length ≤ 100) (ha : 0 ≤ a' ∧ a' ≤ ks.length) (hb : 0 ≤ b' ∧ b' ≤ ps.length) :
   CtrL 8 w 76 [.ref x, .int a' t2, .bytes P t3, .int b' t4] ((x, instObj 93 dx) :: (dx, dictOf [⟨h1, .str "source" k1, .bytes O to⟩, ⟨h2, .str "block" k2, .int b tb⟩, ⟨h3, .str "bucket" k3, .int bu tu⟩, ⟨h4, .str "sums" k4, sv⟩, ⟨h5, .str "places" k5, pv⟩] n) :: news)
     (fun r tl => tl = [] ∧ ∃ t, r = .int (cpl (ks.drop a'.toNat) (ps.drop b'.toNat)) t) := by
  w_top off; unfold CtrL; k_fill; intro mean mg mb dp un gd cn cs a ccd cl outer A₀ base h₀ L m s Q E B F X N T hk hd hu hret; refine wpAny_call ?_; k_dflt cell_enter
  k_steps
  refine Hold.mk ?_
  k_with "state" => (first | exact ⟨Int.le_refl 0, Int.natCast_nonneg _, same_zero⟩ | exact alike_step ha hb (by assumption) (by assumption) (by assumption) (by assumption))
  k_while (fun _ k => 0 ≤ k ∧ k ≤ ks.length ∧ Same ks ps a'.toNat b'.toNat k.toNat) (fun _ k => (101 - k).toNat) "many"
  k_steps
  all_goals exact hret _ [] _ _ (by k_asm) (by simp only [List.append_nil]; exact cb_drop (by assumption) (fun p hp => .tail _ hp)) (fun _ _ _ h9 => nomatch h9) ⟨rfl, val_ex (alike_end ha hb (by assumption) (by assumption) (by first | exact .inl (by assumption) | exact .inr (by assumption)))⟩
end Mine
namespace Mine
def lng (ks ps : List Int) (a b : Int) : List Int → Int × Int → Int × Int
  | [], best => best
  | p :: r, best =>
    if b ≤ (cpl (ks.drop p.toNat) (ps.drop a.toNat) : Nat) ∧ best.2 < (cpl (ks.drop p.toNat) (ps.drop a.toNat) : Nat) then
      (if a + (cpl (ks.drop p.toNat) (ps.drop a.toNat) : Nat) = ps.length then (p, (cpl (ks.drop p.toNat) (ps.drop a.toNat) : Nat)) else lng ks ps a b r (p, (cpl (ks.drop p.toNat) (ps.drop a.toNat) : Nat)))
    else lng ks ps a b r best
theorem lng_step {ks ps : List Int} {a b : Int} {ls : List Int} {i : Nat} {k : Int} {c R : Int × Int} (hx : ls[i]? = some k) (h : lng ks ps a b (ls.drop i) c = R) :
    (if b ≤ (cpl (ks.drop k.toNat) (ps.drop a.toNat) : Nat) ∧ c.2 < (cpl (ks.drop k.toNat) (ps.drop a.toNat) : Nat) then
      (if a + (cpl (ks.drop k.toNat) (ps.drop a.toNat) : Nat) = ps.length then (k, ((cpl (ks.drop k.toNat) (ps.drop a.toNat) : Nat) : Int)) else lng ks ps a b (ls.drop (i + 1)) (k, (cpl (ks.drop k.toNat) (ps.drop a.toNat) : Nat)))
    else lng ks ps a b (ls.drop (i + 1)) c) = R := by
  have hlt : i < ls.length := (List.getElem?_eq_some_iff.mp hx).1
  have he : ls[i] = k := (List.getElem?_eq_some_iff.mp hx).2
  rw [List.drop_eq_getElem_cons hlt, he] at h
  exact h
theorem lng_brk {ks ps : List Int} {a b : Int} {ls : List Int} {i : Nat} {k c2 c3 : Int} {R : Int × Int} (hx : ls[i]? = some k) (h : lng ks ps a b (ls.drop i) (c2, c3) = R)
    (h1 : b ≤ (cpl (ks.drop k.toNat) (ps.drop a.toNat) : Nat)) (h2 : c3 < (cpl (ks.drop k.toNat) (ps.drop a.toNat) : Nat)) (h3 : a + (cpl (ks.drop k.toNat) (ps.drop a.toNat) : Nat) = ps.length) : (k, ((cpl (ks.drop k.toNat) (ps.drop a.toNat) : Nat) : Int)) = R := by
  have := lng_step hx h
  rwa [if_pos ⟨h1, h2⟩, if_pos h3] at this
theorem lng_upd {ks ps : List Int} {a b : Int} {ls : List Int} {i : Nat} {k c2 c3 : Int} {R : Int × Int} (hx : ls[i]? = some k) (h : lng ks ps a b (ls.drop i) (c2, c3) = R)
    (h1 : b ≤ (cpl (ks.drop k.toNat) (ps.drop a.toNat) : Nat)) (h2 : c3 < (cpl (ks.drop k.toNat) (ps.drop a.toNat) : Nat)) (h3 : a + (cpl (ks.drop k.toNat) (ps.drop a.toNat) : Nat) ≠ ps.length) : lng ks ps a b (ls.drop (i + 1)) (k, (cpl (ks.drop k.toNat) (ps.drop a.toNat) : Nat)) = R := by
  have := lng_step hx h
  rwa [if_pos ⟨h1, h2⟩, if_neg h3] at this
theorem lng_not {ks ps : List Int} {a b : Int} {ls : List Int} {i : Nat} {k c2 c3 : Int} {R : Int × Int} (hx : ls[i]? = some k) (h : lng ks ps a b (ls.drop i) (c2, c3) = R)
    (h1 : ¬ (b ≤ (cpl (ks.drop k.toNat) (ps.drop a.toNat) : Nat) ∧ c3 < (cpl (ks.drop k.toNat) (ps.drop a.toNat) : Nat))) : lng ks ps a b (ls.drop (i + 1)) (c2, c3) = R := by
  have := lng_step hx h
  rwa [if_neg h1] at this
section
variable {base own : List (Addr × Obj)} {p q : Addr × Obj} {I : Addr} {oI : Obj}
theorem sub_brk : ∀ r ∈ base ++ [p], r ∈ p :: (q :: base ++ own) := fun r hr => by
  rcases List.mem_append.mp hr with h | h
  · exact .tail _ (.tail _ (List.mem_append.mpr (.inl h)))
  · rw [List.mem_singleton.mp h]; exact .head _
theorem lt_brk (l1 : ∀ r ∈ q :: base ++ own, r.1 < p.1) : ∀ r ∈ base, ∀ z ∈ [p], r.1 < z.1 := fun r hr z hz => by
  rw [List.mem_singleton.mp hz]; exact l1 r (.tail _ (List.mem_append.mpr (.inl hr)))
theorem sub_upd : ∀ r ∈ p :: base, r ∈ p :: (q :: base ++ own) := fun r hr => by
  rcases List.mem_cons.mp hr with rfl | h
  · exact .head _
  · exact .tail _ (.tail _ (List.mem_append.mpr (.inl h)))
theorem sub_own1 : ∀ r ∈ own, r ∈ p :: (q :: base ++ own) := fun r hr => .tail _ (.tail _ (List.mem_append.mpr (.inr hr)))
theorem ne_upd (l1 : ∀ r ∈ q :: base ++ own, r.1 < p.1) (hI : ∀ r ∈ q :: base, r.1 ≠ I) (hown : (I, oI) ∈ own) : ∀ r ∈ p :: base, r.1 ≠ I := fun r hr => by
  rcases List.mem_cons.mp hr with rfl | h
  · exact Nat.ne_of_gt (l1 (I, oI) (.tail _ (List.mem_append.mpr (.inr hown))))
  · exact hI r (.tail _ h)
theorem allLt_upd {D : Addr} (l1 : ∀ r ∈ q :: base ++ own, r.1 < D) : AllLt D base := allLt_of fun r hr => l1 r (.tail _ (List.mem_append.mpr (.inl hr)))
theorem sub_keep : ∀ r ∈ q :: base, r ∈ q :: base ++ own := fun r hr => List.mem_append.mpr (.inl hr)
theorem sub_done : ∀ r ∈ base ++ [p], r ∈ p :: base := fun r hr => by
  rcases List.mem_append.mp hr with h | h
  · exact .tail _ h
  · rw [List.mem_singleton.mp h]; exact .head _
theorem lt_done (l1 : AllLt p.1 base) : ∀ r ∈ base, ∀ z ∈ [p], r.1 < z.1 := fun r hr z hz => by
  rw [List.mem_singleton.mp hz]; exact allLt_mem l1 r hr
end
abbrev tupOf (p q : Int) (tp tq : Tok) : Obj := { cls := .type "tuple", data := .seq #[.int p tp, .int q tq] }
local macro_rules | `(tactic| walk_at "InvPostF") => `(tactic| (dsimp only [InvPostF]))
local macro_rules | `(tactic| walk_at $x:str) => if ["call builtin:dict.get", "pyIter ref"].contains x.getString then `(tactic| refine Hold.out ?_) else Lean.Macro.throwUnsupported
local macro_rules | `(tactic| walk_at $x:str) => if ["call ref"].contains x.getString then `(tactic| refine Hold.out ?_) else Lean.Macro.throwUnsupported
theorem lk_end {h₀ h' : Heap} {L I : Addr} {m₀ m' : Str → Option Value} {base own news' : List (Addr × Obj)} {D : Addr} {p q : Int} {tp tq : Tok} {P : Addr × Int × Int × Tok × Tok → Prop} {s₁ : Shared} {tk : Nat} (F' : Fr h₀ L h' m') (N' : News h₀ L h' news')
    (h1 : ∀ r ∈ (D, tupOf p q tp tq) :: base, r ∈ news') (ho : ∀ r ∈ own, r ∈ news') (hI : ∀ r ∈ (D, tupOf p q tp tq) :: base, r.1 ≠ I) (hk : m' (Str.ofString "best") = some (.ref D)) (hr : ∀ z, z ≠ Str.ofString "place" → z ≠ Str.ofString "best" → z ≠ Str.ofString "many" → m' z = m₀ z) (hp : P (D, p, q, tp, tq)) :
    InvEndF h₀ L I (KF (fun c => (c.1, tupOf c.2.1 c.2.2.1 c.2.2.2.1 c.2.2.2.2) :: base) (fun c => [(Str.ofString "best", .ref c.1)]) (Str.ofString "place") [Str.ofString "many"] m₀ P) own s₁ { s₁ with heap := h', toks := tk } :=
  kf_end (D, p, q, tp, tq) F' N' h1 ho hI (fun r hr => by rw [List.mem_singleton.mp hr]; exact hk) (fun z h1 h2 h3 => hr z h1 (h2 _ (List.mem_singleton.mpr rfl)) (fun e => by rw [e] at h3; simp at h3)) hp
set_option maxHeartbeats 8000000 in
theorem c_longest (w : World) (news : List (Addr × Obj)) (x dx : Addr) (n : Nat) (h1 h2 h3 h4 h5 : Int) (k1 k2 k3 k4 k5 to tb tu : Tok) (b bu : Int) (sv : Value) (O : Array UInt8) (d : Addr) (od : Obj) (kvs : List (Int × Value)) (l : Addr) (vs : List Value) (nl : Nat) (ls : List Int) (t3 t4 t5 : Tok) (P : Array UInt8) (ks ps : List Int) (a' val : Int)
   (hO : KBw.bInts O = ks) (hP : KBw.bInts P = ps) (hks : ks.length ≤ 100) (hps : ps.length ≤ 100) (ha : 0 ≤ a' ∧ a' ≤ ps.length)
   (hod : od.IsDictOf (intKind PySem.Challenge.rw_pb0086_01.row.prog w) kvs) (hlo : (d == sysModules) = false) (hv : valueAt kvs val = some (.ref l)) (hi : IntsAre vs ls) (hls : ∀ p ∈ ls, 0 ≤ p ∧ p ≤ ks.length) (hll : ls.length ≤ 100) :
   CtrL 16 w 83 [.ref x, .bytes P t3, .int a' t4, .int val t5] ((x, instObj 93 dx) :: (dx, dictOf [⟨h1, .str "source" k1, .bytes O to⟩, ⟨h2, .str "block" k2, .int b tb⟩, ⟨h3, .str "bucket" k3, .int bu tu⟩, ⟨h4, .str "sums" k4, sv⟩, ⟨h5, .str "places" k5, .ref d⟩] n) :: (d, od) :: (l, listOf vs.toArray nl) :: news)
     (fun r tl => ∃ u p q tp tq, r = .ref u ∧ tl = [(u, tupOf p q tp tq)] ∧ (p, q) = lng ks ps a' b ls (0, 0)) := by
  w_top off; unfold CtrL; k_fill; intro mean mg mb dp un gd cn cs a ccd cl outer A₀ base h₀ L m s Q E B F X N T hk hd hu hret; refine wpAny_call ?_; k_dflt cell_enter
  k_steps
  refine Hold.mk ?_
  refine kdg_get2 (by k_asm) (by k_mem) hod hlo (intKind_is _ _ _ _) _ hv ?_
  dsimp only [Option.getD]
  k_steps
  refine Hold.mk ?_
  (rename Fr _ _ _ _ => lF; rename News _ _ _ _ => lN)
  k_dflt (with_unfolding_all refine' kf_list (σ := Addr × Int × Int × Tok × Tok) (l := l) (vs := vs) (ns := ls) (nn := nl)
                                        (fun c => (c.1, tupOf c.2.1 c.2.2.1 c.2.2.2.1 c.2.2.2.2) :: ((x, instObj 93 dx) :: (dx, dictOf [⟨h1, .str "source" k1, .bytes O to⟩, ⟨h2, .str "block" k2, .int b tb⟩, ⟨h3, .str "bucket" k3, .int bu tu⟩, ⟨h4, .str "sums" k4, sv⟩, ⟨h5, .str "places" k5, .ref d⟩] n) :: (d, od) :: (l, listOf vs.toArray nl) :: news))
                                        (fun c => [(Str.ofString "best", .ref c.1)]) [Str.ofString "many"]
                                        (fun i c => lng ks ps a' b (ls.drop i) (c.2.1, c.2.2.1) = lng ks ps a' b ls (0, 0) ∧ 0 ≤ c.2.2.1 ∧ AllLt c.1 (((x, instObj 93 dx) :: (dx, dictOf [⟨h1, .str "source" k1, .bytes O to⟩, ⟨h2, .str "block" k2, .int b tb⟩, ⟨h3, .str "bucket" k3, .int bu tu⟩, ⟨h4, .str "sums" k4, sv⟩, ⟨h5, .str "places" k5, .ref d⟩] n) :: (d, od) :: (l, listOf vs.toArray nl) :: news)))
                                        (⟨_, _, _, _, _⟩) rfl ?kl hi lF ?kn ?kk ?kp ?turn ?done)
  case kl => k_mem
  case kn => exact cb_drop lN (by kst_in)
  case kk => kst_all
  case kp => exact ⟨rfl, Int.le_refl 0, by assumption⟩
  case turn =>
    intro c I i k t u h tk own oI hx hown hfp hI hP' F1 N1
    refine wp_gen fun R9 E9 hR9 => ?_
    obtain ⟨c1, c2, c3, c4, c5⟩ := c
    dsimp only [kstB] at hI hP' F1 N1
    have hkk := hls k (List.mem_of_getElem? hx)
    k_steps
    refine Hold.mk ?_
    (rename News _ _ _ _ => nN; k_dflt (refine' CtrL.useL (ps := [_, _]) nN (c_alike w _ x dx n h1 h2 h3 h4 h5 k1 k2 k3 k4 k5 to tb tu b bu sv _ _ _ _ O P ks ps _ _ hO hP hks hps hkk ha) ?kM ?kB ?kF ?kX ?kT ?kK ?kd ?ku ?_; (case kM => exact List.forall_mem_cons.mpr ⟨by k_mem, List.forall_mem_cons.mpr ⟨by k_mem, (fun _ hp => nomatch hp)⟩⟩); (case kB => k_asm); (case kF => k_asm); (case kX => k_asm); (case kT => k_asm); (case kK => first | exact rfl | assumption); (case kd => ktr_room); (case ku => ktr_units)); intro r9 tl9 h9 tk9 F9 N9 l9 o9; clear nN)
    obtain ⟨rfl, t9, rfl⟩ := o9
    rw [List.append_nil] at N9
    k_steps
    · refine hR9 _ _ ?_
      k_steps
      exact hret _ [(_, _)] _ _ (by k_asm) (cb_drop (by assumption) sub_brk) (fun q hq p hp => Nat.ne_of_lt (lt_brk (by assumption) q hq p hp)) ⟨_, _, _, _, _, rfl, rfl, lng_brk hx hP'.1 (by assumption) (by assumption) (by assumption)⟩
    · (rename Fr _ _ _ _ => zF; rename News _ _ _ _ => zN)
      exact hR9 _ _ (lk_end zF zN sub_upd sub_own1 (ne_upd (by assumption) hI hown) rfl (by intro z h1 h2 h3; simp [h1, h2, h3]) ⟨lng_upd hx hP'.1 (by assumption) (by assumption) (by assumption), Int.natCast_nonneg _, (by dsimp only; exact allLt_upd (by assumption))⟩)
    · (rename Fr _ _ _ _ => zF; rename News _ _ _ _ => zN)
      exact hR9 _ _ (lk_end zF zN sub_keep (fun p hp => List.mem_append.mpr (.inr hp)) hI rfl (by intro z h1 h2 h3; simp [h1, h2, h3]) ⟨lng_not hx hP'.1 (fun h => absurd h.2 (by assumption)), hP'.2⟩)
    · (rename Fr _ _ _ _ => zF; rename News _ _ _ _ => zN)
      exact hR9 _ _ (lk_end zF zN sub_keep (fun p hp => List.mem_append.mpr (.inr hp)) hI rfl (by intro z h1 h2 h3; simp [h1, h2, h3]) ⟨lng_not hx hP'.1 (fun h => absurd h.1 (by assumption)), hP'.2⟩)
  case done =>
    intro c u h tk hP' F1 N1
    obtain ⟨c1, c2, c3, c4, c5⟩ := c
    dsimp only [kstB] at hP' F1 N1
    k_steps
    exact hret _ [(_, _)] _ _ (by k_asm) (cb_drop (by assumption) sub_done) (fun q hq p hp => Nat.ne_of_lt (lt_done hP'.2.2 q hq p hp)) ⟨_, _, _, _, _, rfl, rfl, by rw [List.drop_length] at hP'; exact hP'.1⟩
end Mine
namespace Mine
local macro_rules | `(tactic| walk_at $x:str) => if ["call builtin:dict.get", "pyIter ref"].contains x.getString then `(tactic| refine Hold.out ?_) else Lean.Macro.throwUnsupported
theorem sub_miss {base : List (Addr × Obj)} {p q : Addr × Obj} : ∀ r ∈ base ++ [p], r ∈ q :: p :: base := fun r hr => by
  rcases List.mem_append.mp hr with h | h
  · exact .tail _ (.tail _ h)
  · rw [List.mem_singleton.mp h]; exact .tail _ (.head _)
set_option maxHeartbeats 8000000 in
theorem c_longest0 (w : World) (news : List (Addr × Obj)) (x dx : Addr) (n : Nat) (h1 h2 h3 h4 h5 : Int) (k1 k2 k3 k4 k5 to tb tu : Tok) (b bu : Int) (sv : Value) (O : Array UInt8) (d : Addr) (od : Obj) (kvs : List (Int × Value)) (t3 t4 t5 : Tok) (P : Array UInt8) (a' val : Int)
   (hod : od.IsDictOf (intKind PySem.Challenge.rw_pb0086_01.row.prog w) kvs) (hlo : (d == sysModules) = false) (hv : valueAt kvs val = none) :
   CtrL 16 w 83 [.ref x, .bytes P t3, .int a' t4, .int val t5] ((x, instObj 93 dx) :: (dx, dictOf [⟨h1, .str "source" k1, .bytes O to⟩, ⟨h2, .str "block" k2, .int b tb⟩, ⟨h3, .str "bucket" k3, .int bu tu⟩, ⟨h4, .str "sums" k4, sv⟩, ⟨h5, .str "places" k5, .ref d⟩] n) :: (d, od) :: news)
     (fun r tl => ∃ u tp tq, r = .ref u ∧ tl = [(u, tupOf 0 0 tp tq)]) := by
  w_top off; unfold CtrL; k_fill; intro mean mg mb dp un gd cn cs a ccd cl outer A₀ base h₀ L m s Q E B F X N T hk hd hu hret; refine wpAny_call ?_; k_dflt cell_enter
  k_steps
  refine Hold.mk ?_
  refine kdg_get2 (by k_asm) (by k_mem) hod hlo (intKind_is _ _ _ _) _ hv ?_
  dsimp only [Option.getD]
  k_steps
  refine Hold.mk ?_
  (rename Fr _ _ _ _ => lF; rename News _ _ _ _ => lN)
  k_dflt (with_unfolding_all refine' kf_list (σ := Unit) (vs := []) (ns := []) (nn := 0)
                                        (fun _ => _) (fun _ => []) [] (fun _ _ => True) () rfl ?kl IntsAre.nil lF lN ?kk True.intro ?turn ?done)
  case kl => exact List.Mem.head _
  case kk => exact (fun _ h => nomatch h)
  case turn =>
    intro c I i k t u h tk own oI hx hown hfp hI hP' F1 N1
    simp at hx
  case done =>
    intro c u h tk hP' F1 N1
    dsimp only [kstB] at F1 N1
    k_steps
    exact hret _ [(_, _)] _ _ (by k_asm) (cb_drop (by assumption) sub_miss) (fun q hq p hp => Nat.ne_of_lt (lt_done (by assumption) q hq p hp)) ⟨_, _, _, rfl, rfl⟩
end Mine
namespace Mine
local macro_rules | `(tactic| walk_at "exec If") => `(tactic| ((with_reducible show wpAny _ _ (exec (PySem.Stmt.If (PySem.Expr.BoolOp _ _ _) _ _ _) _) _ _ _); refine Hold.out ?_))
local macro_rules | `(tactic| walk_at "InvPostF") => `(tactic| (dsimp only [InvPostF]))
local macro_rules | `(tactic| walk_at $x:str) => if ["call builtin:dict.get", "pyIter ref", "getMethod ref", "binaryOp Add ref ref", "setItem"].contains x.getString then `(tactic| refine Hold.out ?_) else Lean.Macro.throwUnsupported
theorem isB_pc {prog : Program} {w : World} {O : Array UInt8} {b a : Int} {t : Tok} (ha : 0 ≤ a) (hb : 0 ≤ b) : (bytesKind prog w).is (pc O.toList b a) (.bytes (KBy.picked O (some a) (some (a + b))) t) = true := by
  show ((KBy.picked O (some a) (some (a + b))).toList == pc O.toList b a) = true
  rw [pick_pc ha hb]; simp
theorem isL_news {h₀ h : Heap} {L l : Addr} {news : List (Addr × Obj)} {its : Array Value} {n : Nat} (N : News h₀ L h news) (hm : (l, listOf its n) ∈ news) : h.IsList l its := ⟨_, (N _ hm).1, rfl, n, rfl⟩
theorem blk_set {prog : Program} {w : World} {A : Around} {E : Value → Shared → Prop} {s : Shared} {h₀ : Heap} {L d D2 I : Addr} {m : Str → Option Value} {K : Type} [DecidableEq K] {knd : KeyKind prog w K} {o1 oN : Obj} {kvs : List (K × Value)} {tl news own led : List (Addr × Obj)} {k : K} {key : Value} {Q : Unit → Shared → Prop}
    (F : Fr h₀ L s.heap m) (N : News h₀ L s.heap led) (h1 : (D2, oN) ∈ led) (h2 : ∀ p ∈ (d, o1) :: (tl ++ news) ++ own, p ∈ led) (hD : d ≠ D2) (hI : ∀ p ∈ (d, o1) :: (tl ++ news), p.1 ≠ I) (hown : ∀ p ∈ own, p.1 = I) (hgt : ∀ p ∈ tl, d < p.1) (hlt : ∀ p ∈ news, p.1 < d)
    (hd1 : o1.IsDictOf knd kvs) (hkey : knd.is k key = true) (hlen : kvs.length ≤ 1000)
    (hQ : ∀ h' o', Fr h₀ L h' m → News h₀ L h' ((d, o') :: ((D2, oN) :: tl ++ news) ++ own) → o'.IsDictOf knd (stored kvs k (.ref D2)) → Q () { s with heap := h', toks := s.toks + 1 }) : wpAny (model prog w) A (setItem (.ref d) key (.ref D2)) Q E s := by
  refine kda_set (news := (d, o1) :: ((D2, oN) :: tl ++ news ++ own)) (g := fun o' => (d, o') :: ((D2, oN) :: tl ++ news ++ own)) F (cb_drop N ?_) (.head ?_) hd1 hkey (by rw [sizeLine_eq]; omega) ?_
  · intro p hp
    rcases List.mem_cons.mp hp with rfl | hp
    · exact h2 _ (List.mem_append.mpr (.inl (.head _)))
    · rcases List.mem_append.mp hp with hp | hp
      · rcases List.mem_cons.mp hp with rfl | hp
        · exact h1
        · exact h2 _ (List.mem_append.mpr (.inl (.tail _ hp)))
      · exact h2 _ (List.mem_append.mpr (.inr hp))
  · intro p hp
    rcases List.mem_append.mp hp with hp | hp
    · rcases List.mem_cons.mp hp with rfl | hp
      · exact hD.symm
      · rcases List.mem_append.mp hp with hp | hp
        · exact Nat.ne_of_gt (hgt p hp)
        · exact Nat.ne_of_lt (hlt p hp)
    · rw [hown p hp]; exact (hI (d, o1) (.head _)).symm
  · intro h' o' F' N' hd'
    exact hQ h' o' F' N' hd'
theorem blk_end {h₀ h' : Heap} {L d D2 I : Addr} {m₀ m' : Str → Option Value} {K : Type} {oN o1 o3 : Obj} {kvs : List (K × Value)} {tl news own : List (Addr × Obj)} {P : Obj × List (K × Value) × List (Addr × Obj) → Prop} {s₁ : Shared} {tk : Nat} {x y : Str} (F3 : Fr h₀ L h' m') (N3 : News h₀ L h' ((d, o3) :: ((D2, oN) :: tl ++ news) ++ own)) (hI : ∀ p ∈ (d, o1) :: (tl ++ news), p.1 ≠ I) (hDI : D2 ≠ I)
    (hr : ∀ z, z ≠ x → z ≠ y → m' z = m₀ z) (hp : P (o3, kvs, (D2, oN) :: tl)) : InvEndF h₀ L I (KF (fun c => (d, c.1) :: (c.2.2 ++ news)) (fun _ => []) x [y] m₀ P) own s₁ { s₁ with heap := h', toks := tk } := by
  refine kf_end (o3, kvs, (D2, oN) :: tl) F3 N3 (fun p hp => List.mem_append.mpr (.inl hp)) (fun p hp => List.mem_append.mpr (.inr hp)) ?_ (fun _ hp => nomatch hp) (fun z h1 _ h3 => hr z h1 (fun e => by subst e; simp at h3)) hp
  intro p hp
  rcases List.mem_cons.mp hp with rfl | hp
  · exact hI (d, o1) (.head _)
  · rcases List.mem_append.mp hp with hp | hp
    · rcases List.mem_cons.mp hp with rfl | hp
      · exact hDI
      · exact hI p (.tail _ (List.mem_append.mpr (.inl hp)))
    · exact hI p (.tail _ (List.mem_append.mpr (.inr hp)))
theorem blk_end0 {h₀ h' : Heap} {L d I : Addr} {m₀ m' : Str → Option Value} {K : Type} {o1 : Obj} {kvs : List (K × Value)} {tl news own : List (Addr × Obj)} {P : Obj × List (K × Value) × List (Addr × Obj) → Prop} {s₁ : Shared} {tk : Nat} {x y : Str} (F3 : Fr h₀ L h' m') (N3 : News h₀ L h' ((d, o1) :: (tl ++ news) ++ own)) (hI : ∀ p ∈ (d, o1) :: (tl ++ news), p.1 ≠ I)
    (hr : ∀ z, z ≠ x → z ≠ y → m' z = m₀ z) (hp : P (o1, kvs, tl)) : InvEndF h₀ L I (KF (fun c => (d, c.1) :: (c.2.2 ++ news)) (fun _ => []) x [y] m₀ P) own s₁ { s₁ with heap := h', toks := tk } :=
  kf_end (o1, kvs, tl) F3 N3 (fun p hp => List.mem_append.mpr (.inl hp)) (fun p hp => List.mem_append.mpr (.inr hp)) hI (fun _ hp => nomatch hp) (fun z h1 _ h3 => hr z h1 (fun e => by subst e; simp at h3)) hp
theorem blk_sub {q : Addr × Obj} {tl news : List (Addr × Obj)} : ∀ p ∈ news ++ q :: tl, p ∈ q :: (tl ++ news) := fun p hp => by
  rcases List.mem_append.mp hp with hp | hp
  · exact .tail _ (List.mem_append.mpr (.inr hp))
  · rcases List.mem_cons.mp hp with rfl | hp
    · exact .head _
    · exact .tail _ (List.mem_append.mpr (.inl hp))
theorem blk_lt {d : Addr} {o : Obj} {tl news : List (Addr × Obj)} (hlt : ∀ p ∈ news, p.1 < d) (hgt : ∀ p ∈ tl, d < p.1) : ∀ q ∈ news, ∀ p ∈ (d, o) :: tl, q.1 < p.1 := fun q hq p hp => by
  rcases List.mem_cons.mp hp with rfl | hp
  · exact hlt q hq
  · exact Nat.lt_trans (hlt q hq) (hgt p hp)
theorem kept_0 {B : List UInt8} {b : Int} {i : Nat} (hb : 1 ≤ b) (h : (i : Int) * b = 0) : keptAt B b i = true := by
  have : i = 0 := by
    rcases Int.mul_eq_zero.mp h with h | h
    · omega
    · omega
  subst this; rfl
theorem idx_pos {b : Int} {i : Nat} (h : ¬ (i : Int) * b = 0) : 1 ≤ i := by
  rcases Nat.eq_zero_or_pos i with h' | h'
  · subst h'; simp at h
  · exact h'
theorem prev_eq {b : Int} {i : Nat} (h : 1 ≤ i) : (i : Int) * b - b = ((i - 1 : Nat) : Int) * b := by
  have : (i : Int) = ((i - 1 : Nat) : Int) + 1 := by omega
  rw [this, Int.add_mul]; omega
theorem kept_ne {O : Array UInt8} {b : Int} {i : Nat} {r : Bool} (hb : 1 ≤ b) (h : ¬ (i : Int) * b = 0) (hc : ((KBy.picked O (some ((i : Int) * b - b)) (some ((i : Int) * b))).toList != (KBy.picked O (some ((i : Int) * b)) (some ((i : Int) * b + b))).toList) = r) : keptAt O.toList b i = r := by
  have hi := idx_pos h
  have e := prev_eq (b := b) hi
  have h0 : 0 ≤ ((i - 1 : Nat) : Int) * b := Int.mul_nonneg (by omega) (by omega)
  have h1 : 0 ≤ (i : Int) * b := Int.mul_nonneg (by omega) (by omega)
  have e2 : (i : Int) * b = ((i - 1 : Nat) : Int) * b + b := by omega
  rw [pick_pc h1 (by omega)] at hc
  rw [e] at hc
  have e3 : KBy.picked O (some (((i - 1 : Nat) : Int) * b)) (some ((i : Int) * b)) = KBy.picked O (some (((i - 1 : Nat) : Int) * b)) (some (((i - 1 : Nat) : Int) * b + b)) := by rw [← e2]
  rw [e3, pick_pc h0 (by omega)] at hc
  unfold keptAt
  have : (i == 0) = false := by simp; omega
  rw [this, Bool.false_or]
  exact hc
theorem DD_kept {B : List UInt8} {b : Int} {i : Nat} (h : keptAt B b i = true) : DD B b (i + 1) = ins (DD B b i) (pc B b ((i : Int) * b)) ((i : Int) * b) := by
  show (if keptAt B b i then _ else _) = _
  rw [h]; rfl
theorem DD_not {B : List UInt8} {b : Int} {i : Nat} (h : keptAt B b i = false) : DD B b (i + 1) = DD B b i := by
  show (if keptAt B b i then _ else _) = _
  rw [h]; rfl
set_option maxHeartbeats 8000000 in
theorem c_blocks (w : World) (news : List (Addr × Obj)) (O : Array UInt8) (ks : List Int) (b : Int) (to tb : Tok) (hO : KBw.bInts O = ks) (hks : ks.length ≤ 100) (hb : 1 ≤ b ∧ b < 1000) :
   CtrL 16 w 111 [.bytes O to, .int b tb] news
     (fun r tl => ∃ d od kvs tl', r = .ref d ∧ tl = (d, od) :: tl' ∧ (d == sysModules) = false ∧ od.IsDictOf (bytesKind PySem.Challenge.rw_pb0086_01.row.prog w) kvs ∧ DL tl' kvs (DD O.toList b (nbk ks.length b))) := by
  w_top off; unfold CtrL; k_fill; intro mean mg mb dp un gd cn cs a ccd cl outer A₀ base h₀ L m s Q E B F X N T hk hd hu hret; refine wpAny_call ?_; k_dflt cell_enter
  k_steps
  refine Hold.mk ?_
  rename ((_ : Addr) == sysModules) = false => hlo
  rename ∀ p ∈ news, _ => hlt
  rename Obj.IsDictOf (intKind _ _) _ _ => hod
  rename IsRange _ _ _ _ _ _ _ _ => hrg
  rename_i d' h' od' _ _ _ _ _ _ _ _ _ _ _ _ _ _
  (rename Fr _ _ _ _ => lF; rename News _ _ _ _ => lN)
  k_dflt (with_unfolding_all refine' kf_range (σ := Obj × List (List UInt8 × Value) × List (Addr × Obj))
                                        (fun c => (d', c.1) :: (c.2.2 ++ news)) (fun _ => []) [Str.ofString "piece"]
                                        (fun i c => c.1.IsDictOf (bytesKind PySem.Challenge.rw_pb0086_01.row.prog w) c.2.1 ∧ DL c.2.2 c.2.1 (DD O.toList b i) ∧ (∀ p ∈ c.2.2, d' < p.1) ∧ c.2.1.length ≤ i)
                                        (od', [], []) rfl hrg (small_ok (by omega) (by omega) hb.1 (by omega)) (nbk_is hb.1 (by omega)) lF lN ?kk ?kp ?turn ?done)
  case kk => exact (fun _ h => nomatch h)
  case kp => exact ⟨isDict_nil hod, trivial, fun _ h => (nomatch h), Nat.le_refl 0⟩
  case turn =>
    intro c I i t u h tk own oI hin hown hfp hI hP' F1 N1
    refine wp_gen fun R9 E9 hR9 => ?_
    obtain ⟨o1, kvs, tl⟩ := c
    dsimp only [kstB] at hI hP' F1 N1
    obtain ⟨hd1, hdl, hgt, hlen⟩ := hP'
    have hA1 := nbk_lt hb.1 hin
    have hA2 : 0 ≤ (i : Int) * b := Int.mul_nonneg (by omega) (by omega)
    have hi100 : i ≤ 100 := by have := nbk_le (len := ks.length) hb.1 (by omega); omega
    rw [Int.zero_add] at F1
    k_steps
    refine Hold.mk ?_
    rename Fr _ _ _ _ => xF
    rename News _ _ _ _ => xN
    refine wpAny_If (wp_join_boolF (keptAt O.toList b i) xF xN ?cond ?rest)
    case cond =>
      intro Q8 hQ8
      k_steps
      · have hk9 : keptAt O.toList b i = true := kept_0 hb.1 (by assumption)
        rw [hk9] at hQ8
        exact hQ8 _ _ (by k_asm) (by k_asm)
      · have hk9 : keptAt O.toList b i = true := kept_ne hb.1 (by assumption) (by assumption)
        rw [hk9] at hQ8
        exact hQ8 _ _ (by k_asm) (by k_asm)
      · have hk9 : keptAt O.toList b i = false := kept_ne hb.1 (by assumption) (by assumption)
        rw [hk9] at hQ8
        exact hQ8 _ _ (by k_asm) (by k_asm)
    case rest =>
      intro h9 tk9 F9 N9
      clear xF xN
      dsimp only
      cases hkept : keptAt O.toList b i with
      | true =>
        rw [if_pos rfl]
        k_steps
        refine Hold.mk ?_
        refine kdg_method (by k_asm) (by k_mem) hd1 ?_
        k_steps
        refine Hold.mk ?_
        rcases hdl.look (pc O.toList b (i*b)) with ⟨hv, hf⟩ | ⟨l, vs, n, xs, hv, hm, hi, hf⟩
        · refine kdg_get2 (by k_asm) (by k_mem) hd1 hlo (isB_pc hA2 (by omega)) none hv ?_
          dsimp only [Option.getD]
          k_steps
          refine Hold.mk ?_
          rename Fr _ _ _ _ => zF
          rename News _ _ _ _ => zN
          refine add_lists_ints (vs := []) (ns := []) (hsz := by rw [sizeLine_eq]; simp only [List.length_cons, List.length_nil]; omega) zF zN (isL_news zN (.tail _ (.head _))) (isL_news zN (.head _)) IntsAre.nil (IntsAre.cons _ _ IntsAre.nil) ?_
          have hlk : [((i : Int) * b)] = lookD (DD O.toList b i) (pc O.toList b (i*b)) ++ [((i : Int) * b)] := by unfold lookD; rw [hf]; rfl
          intro h2 F2 N2 hi2
          have hsz2 : ∀ p ∈ (d', o1) :: (tl ++ news) ++ own, p.1 < _ := fun p hp => Heap.lt_size (zN p (.tail _ (.tail _ hp))).1
          clear zF zN
          k_steps
          refine Hold.mk ?_
          rename Fr _ _ _ _ => zF
          rename News _ _ _ _ => zN
          refine blk_set zF zN (.head _) (fun p hp => .tail _ (.tail _ (.tail _ hp))) (Nat.ne_of_lt (hsz2 (d', o1) (.head _))) hI hfp hgt hlt hd1 (isB_pc hA2 (by omega)) (by omega) ?_
          intro h3 o3 F3 N3 hd3
          clear zF zN
          k_steps
          exact hR9 _ _ (blk_end F3 N3 hI (Nat.ne_of_gt (hsz2 (I, oI) (List.mem_append.mpr (.inr hown)))) (by intro z h1 h2; simp [h1, h2]) ⟨hd3, by rw [DD_kept hkept]; exact DL.ins (hdl.mono fun p hp => .tail _ hp) (.head _) (hlk ▸ hi2), List.forall_mem_cons.mpr ⟨hsz2 (d', o1) (.head _), hgt⟩, Nat.le_trans (stored_len _ _ _) (Nat.succ_le_succ hlen)⟩)
        · refine kdg_get2 (by k_asm) (by k_mem) hd1 hlo (isB_pc hA2 (by omega)) (some (.ref l)) hv ?_
          dsimp only [Option.getD]
          have hm' : (l, listOf vs.toArray n) ∈ (d', o1) :: (tl ++ news) ++ own := List.mem_append.mpr (.inl (.tail _ (List.mem_append.mpr (.inl hm))))
          have hxl := DD_len i _ (List.mem_of_find?_eq_some hf)
          dsimp only at hxl
          k_steps
          refine Hold.mk ?_
          rename Fr _ _ _ _ => zF
          rename News _ _ _ _ => zN
          refine add_lists_ints (hsz := by rw [sizeLine_eq]; simp only [List.length_cons, List.length_nil]; omega) zF zN (isL_news zN (.tail _ (.tail _ hm'))) (isL_news zN (.head _)) hi (IntsAre.cons _ _ IntsAre.nil) ?_
          have hlk : xs ++ [((i : Int) * b)] = lookD (DD O.toList b i) (pc O.toList b (i*b)) ++ [((i : Int) * b)] := by unfold lookD; rw [hf]; rfl
          intro h2 F2 N2 hi2
          have hsz2 : ∀ p ∈ (d', o1) :: (tl ++ news) ++ own, p.1 < _ := fun p hp => Heap.lt_size (zN p (.tail _ (.tail _ hp))).1
          clear zF zN
          k_steps
          refine Hold.mk ?_
          rename Fr _ _ _ _ => zF
          rename News _ _ _ _ => zN
          refine blk_set zF zN (.head _) (fun p hp => .tail _ (.tail _ (.tail _ hp))) (Nat.ne_of_lt (hsz2 (d', o1) (.head _))) hI hfp hgt hlt hd1 (isB_pc hA2 (by omega)) (by omega) ?_
          intro h3 o3 F3 N3 hd3
          clear zF zN
          k_steps
          exact hR9 _ _ (blk_end F3 N3 hI (Nat.ne_of_gt (hsz2 (I, oI) (List.mem_append.mpr (.inr hown)))) (by intro z h1 h2; simp [h1, h2]) ⟨hd3, by rw [DD_kept hkept]; exact DL.ins (hdl.mono fun p hp => .tail _ hp) (.head _) (hlk ▸ hi2), List.forall_mem_cons.mpr ⟨hsz2 (d', o1) (.head _), hgt⟩, Nat.le_trans (stored_len _ _ _) (Nat.succ_le_succ hlen)⟩)
      | false =>
        rw [if_neg Bool.false_ne_true]
        k_steps
        rename Fr _ _ _ _ => zF
        rename News _ _ _ _ => zN
        exact hR9 _ _ (blk_end0 zF zN hI (by intro z h1 h2; simp [h1, h2]) ⟨hd1, by rw [DD_not hkept]; exact hdl, hgt, Nat.le_succ_of_le hlen⟩)
  case done =>
    intro c u h tk hP' F1 N1
    obtain ⟨o1, kvs, tl⟩ := c
    dsimp only [kstB] at hP' F1 N1
    obtain ⟨hd1, hdl, hgt, hlen⟩ := hP'
    k_steps
    exact hret _ ((_, _) :: tl) _ _ (by k_asm) (cb_drop (by assumption) blk_sub) (fun q hq p hp => Nat.ne_of_lt (blk_lt hlt hgt q hq p hp)) ⟨_, _, _, _, rfl, rfl, hlo, hd1, hdl⟩
end Mine
namespace Mine
local macro_rules | `(tactic| walk_at "exec If") => `(tactic| ((with_reducible show wpAny _ _ (exec (PySem.Stmt.If (PySem.Expr.Compare (PySem.Expr.Name (PySem.Str.ofString "value") _) _ _ _) _ _ _) _) _ _ _); refine Hold.out ?_))
theorem keptV_more {ks : List Int} {b : Int} {i : Nat} (hi : 1 ≤ i) : keptV ks b i = (val ks b i != val ks b (i - 1)) := by
  unfold keptV
  rw [beq_eq_false_iff_ne.mpr (Nat.ne_of_gt hi), Bool.false_or]
  exact bne_comm
local macro_rules | `(tactic| walk_at "getMethod ref") => `(tactic| ((with_reducible show wpAny _ _ (getMethod (Value.ref _) (PySem.Str.ofString "setdefault") _) _ _ _); refine Hold.out ?_))
local macro_rules | `(tactic| walk_at "getMethod ref") => `(tactic| ((with_reducible show wpAny _ _ (getMethod (Value.ref _) (PySem.Str.ofString "append") _) _ _ _); refine Hold.out ?_))
local macro_rules | `(tactic| walk_at "call builtin:len") => `(tactic| ((with_reducible show wpAny _ _ (call (Value.builtin "len") [Value.ref _]) _ _ _); refine Hold.out ?_))
local macro_rules | `(tactic| walk_at "KCfEl") => `(tactic| (with_unfolding_all exact kcf_el rfl rfl rfl))
local macro_rules | `(tactic| walk_at "exec For") => `(tactic| (k_here; (rename Fr _ _ _ _ => lF'); (with_unfolding_all refine' For_invTF lF' ?k1 ?k2; (case k2 => (intro _; rfl)); k_whole)))
local macro_rules | `(tactic| walk_at $x:str) => if ["call builtin:dict.setdefault", "call builtin:list.append", "call builtin:sorted", "pyIter ref", "call ref", "setItem"].contains x.getString then `(tactic| refine Hold.out ?_) else Lean.Macro.throwUnsupported
def Off (L : Nat) (l : List (Addr × Obj)) : Prop := ∀ p ∈ l, @LT.lt Nat _ p.1 L ∨ @LT.lt Nat _ (L + 4) p.1
theorem tail_off {L : Nat} {c : Addr} {l : List (Addr × Obj)} (h : Off L l) (h1 : @LE.le Nat _ L c) (h2 : @LE.le Nat _ c (L + 4)) : ∀ p ∈ l, p.1 ≠ c := fun p hp e => by
  have := h p hp
  rw [e] at this
  omega
theorem off_lt {L : Nat} {l : List (Addr × Obj)} (h : AllLt L l) : Off L l := fun p hp => .inl (allLt_mem h p hp)
local macro_rules | `(tactic| k_all) => `(tactic| assumption)
local macro_rules | `(tactic| k_all) => `(tactic| exact tail_off (by assumption) (by omega) (by omega))
theorem fdiv_lo {k m n : Int} (h0 : 0 ≤ k) (hm : 0 ≤ m) (hn : 1 ≤ n) : 0 ≤ Int.fdiv (k * m) n := by
  rw [Int.fdiv_eq_ediv_of_nonneg _ (by omega)]; exact Int.ediv_nonneg (Int.mul_nonneg h0 hm) (by omega)
theorem fdiv_hi {k m n : Int} (hk : k < n) (hm : 0 < m) (hn : 1 ≤ n) : Int.fdiv (k * m) n < m := by
  rw [Int.fdiv_eq_ediv_of_nonneg _ (by omega)]
  refine Int.ediv_lt_of_lt_mul (by omega) ?_
  rw [Int.mul_comm m n]
  exact Int.mul_lt_mul_of_pos_right hk hm
theorem q1' {k bu : Int} (hb : 1 ≤ bu) (h : k < 0 + (Int.toNat (bu - 0) : Int)) : k < bu := by omega
theorem q2' {n bu : Int} (hb : 1 ≤ bu) (h : bu < n) : 0 < n := by omega
theorem q6' {n : Nat} (h : n ≤ 60) : (n : Int) < 2 ^ 63 := by omega
local macro_rules | `(tactic| walk_at "subscriptTail") => `(tactic| (k_here; (with_reducible show wpAny _ _ (subscriptTail _ (Expr.Name _ _) (Value.ref _) (Value.int _ _)) _ _ _); (refine kda_item (by k_asm) (by k_mem) (by assumption) (intKind_is _ _ _ _) (by assumption) ?_)))
theorem item_cap {prog : Program} {w : World} {A : Around} {E : Value → Shared → Prop} {s : Shared} {value slice : PySem.Expr} {l : Addr} {vs : List Value} {ns : List Int} {k bu : Int} {u : Tok} {Q : Value → Shared → Prop} (hl : s.heap.IsList l vs.toArray) (hi : IntsAre vs ns)
    (qb : 1 ≤ bu ∧ bu ≤ 1000) (q0 : 0 ≤ k) (q1 : k < 0 + (Int.toNat (bu - 0) : Int)) (q5 : bu < (ns.length : Int)) (q7 : ns.length ≤ 60) (h : ∀ t, Q (.int (ns.getD (Int.fdiv (k * (ns.length : Int)) bu).toNat 0) t) s)
    (hs : subscripted slice false (.ref l) (.int (Int.fdiv (k * (ns.length : Int)) bu) u) = operate [.ref l, .int (Int.fdiv (k * (ns.length : Int)) bu) u] (getItem (.ref l) (.int (Int.fdiv (k * (ns.length : Int)) bu) u)) := by with_unfolding_all rfl) :
    wpAny (model prog w) A (subscriptTail value slice (.ref l) (.int (Int.fdiv (k * (ns.length : Int)) bu) u)) Q E s :=
  have q4 := fdiv_hi (q1' qb.1 q1) (q2' qb.1 q5) qb.1
  item_ints_any hl hi (fdiv_lo q0 (Int.natCast_nonneg _) qb.1) q4 (Int.lt_trans q4 (q6' q7)) h hs
local macro_rules | `(tactic| walk_at "subscriptTail") => `(tactic| (k_here; (with_reducible show wpAny _ _ (subscriptTail _ _ (Value.ref _) (Value.int (Int.fdiv _ _) _)) _ _ _); (rename (_ < (0:Int) + (Int.toNat (_ - 0) : Int)) => q1; rename ((0:Int) ≤ _) => q0; rename (_ < (List.length _ : Int)) => q5; rename (1 ≤ _ ∧ _ ≤ 1000) => qb; rename (List.length _ ≤ 60) => q7; rename (_ ∈ _ ++ _ ++ _) => hmX; rename News _ _ _ _ => nN; refine item_cap (isL_news nN (by repeat (first | exact hmX | apply List.Mem.tail))) (by assumption) qb q0 q1 q5 q7 ?_); intro _))
local macro_rules | `(tactic| k_get) => `(tactic| rfl)
theorem off_l {l d I : Addr} {tl news own : List (Addr × Obj)} (hown : ∀ p ∈ own, p.1 = I) (hn : ∀ p ∈ news, p.1 < d) (hdl : @LT.lt Nat _ d l) (hI : l ≠ I) : ∀ p ∈ tl.filter (fun p => decide (p.1 ≠ l)) ++ news ++ own, p.1 ≠ l := by
  intro p hp
  simp only [List.mem_append, List.mem_filter] at hp
  rcases hp with (hp | hp) | hp
  · simpa using hp.2
  · exact Nat.ne_of_lt (Nat.lt_trans (hn p hp) hdl)
  · rw [hown p hp]; exact hI.symm
theorem off_lt' {L : Nat} {l : List (Addr × Obj)} (h : ∀ p ∈ l, @LT.lt Nat _ p.1 L) : Off L l := fun p hp => .inl (h p hp)
theorem off_all2 {L : Nat} {I lD : Addr} {tl news own : List (Addr × Obj)} (hn : Off L news) (ht : Off L tl) (ho : ∀ p ∈ own, p.1 ∈ [I, lD]) (hI : @LT.lt Nat _ I L ∨ @LT.lt Nat _ (L + 4) I) (hl : @LT.lt Nat _ (L + 4) lD) : Off L (tl ++ news ++ own) := by
  intro p hp
  simp only [List.mem_append] at hp
  rcases hp with (hp | hp) | hp
  · exact ht p hp
  · exact hn p hp
  · rcases List.mem_cons.mp (ho p hp) with e | e
    · rw [e]; exact hI
    · rw [List.mem_singleton.mp e]; exact .inr hl
theorem off_d2 {d I lD : Addr} {tl news own : List (Addr × Obj)} (ht : ∀ p ∈ tl, p.1 ≠ d) (hn : ∀ p ∈ news, p.1 < d) (ho : ∀ p ∈ own, p.1 ∈ [I, lD]) (hI : d ≠ I) (hl : lD ≠ d) : ∀ p ∈ tl ++ news ++ own, p.1 ≠ d := by
  intro p hp
  simp only [List.mem_append] at hp
  rcases hp with (hp | hp) | hp
  · exact ht p hp
  · exact Nat.ne_of_lt (hn p hp)
  · rcases List.mem_cons.mp (ho p hp) with e | e
    · rw [e]; exact hI.symm
    · rw [List.mem_singleton.mp e]; exact hl
theorem pl2_pull {z a1 a2 a3 a4 a5 a6 a7 a8 a9 dd : Addr × Obj} {r : List (Addr × Obj)} : ∀ p ∈ dd :: z :: a1 :: a2 :: a3 :: a4 :: a5 :: a6 :: a7 :: a8 :: a9 :: r, p ∈ z :: a1 :: a2 :: a3 :: a4 :: a5 :: a6 :: a7 :: a8 :: a9 :: dd :: r := by
  intro p hp; simp only [List.mem_cons] at hp ⊢; grind
section
variable {z a1 a2 a3 a4 a5 a6 a7 a8 a9 dd b1 b2 bd : Addr × Obj} {tl tl' news own : List (Addr × Obj)} {I : Addr}
theorem pl3_sub : ∀ p ∈ a1 :: a2 :: a3 :: a4 :: a5 :: a6 :: a7 :: a8 :: a9 :: dd :: ((z :: tl) ++ news), p ∈ dd :: z :: a1 :: a2 :: a3 :: a4 :: a5 :: a6 :: a7 :: a8 :: a9 :: (tl ++ news ++ own) := by
  intro p hp; simp only [List.mem_cons, List.mem_append, List.cons_append] at hp ⊢; grind
theorem pl3_own : ∀ p ∈ own, p ∈ dd :: z :: a1 :: a2 :: a3 :: a4 :: a5 :: a6 :: a7 :: a8 :: a9 :: (tl ++ news ++ own) := by
  intro p hp; simp only [List.mem_cons, List.mem_append] at hp ⊢; grind
theorem pl3_sub0 : ∀ p ∈ a1 :: a2 :: a3 :: a4 :: a5 :: a6 :: a7 :: a8 :: a9 :: dd :: (tl ++ news), p ∈ a1 :: a2 :: a3 :: a4 :: a5 :: a6 :: a7 :: a8 :: a9 :: dd :: (tl ++ news ++ own) := by
  intro p hp; simp only [List.mem_cons, List.mem_append] at hp ⊢; grind
theorem pl3_own0 : ∀ p ∈ own, p ∈ a1 :: a2 :: a3 :: a4 :: a5 :: a6 :: a7 :: a8 :: a9 :: dd :: (tl ++ news ++ own) := by
  intro p hp; simp only [List.mem_cons, List.mem_append] at hp ⊢; grind
theorem pl3_ne (hI : ∀ p ∈ a1 :: a2 :: a3 :: a4 :: a5 :: a6 :: a7 :: a8 :: a9 :: dd :: (tl ++ news), p.1 ≠ I) (h1 : b1.1 = a1.1) (h2 : b2.1 = a2.1) (hd : bd.1 = dd.1) (ht : ∀ p ∈ tl', p.1 ≠ I) :
    ∀ p ∈ b1 :: b2 :: a3 :: a4 :: a5 :: a6 :: a7 :: a8 :: a9 :: bd :: (tl' ++ news), p.1 ≠ I := by
  intro p hp
  have e1 := hI a1 (by simp)
  have e2 := hI a2 (by simp)
  have ed := hI dd (by simp)
  simp only [List.mem_cons, List.mem_append] at hp hI
  grind
end
theorem pl_done {c1 c2 c3 c4 b1 b2 b3 b4 l dd : Addr × Obj} {tl news : List (Addr × Obj)} : ∀ p ∈ b1 :: b2 :: b3 :: b4 :: news ++ dd :: tl, p ∈ c1 :: c2 :: c3 :: c4 :: b1 :: b2 :: b3 :: b4 :: l :: dd :: (tl ++ news) := by
  intro p hp; simp only [List.mem_cons, List.mem_append, List.cons_append] at hp ⊢; grind
theorem capD_raw {bu : Int} {S : List Int} {v : Int} {xs ys : List Int} (h0 : 0 ≤ bu) (h : xs = if S.contains v = true then cap bu ys else ys) (hl : bu < (xs.length : Int)) : xs = ys := by
  split at h
  · have := cap_le (l := ys) h0
    rw [h] at hl; omega
  · exact h
set_option maxHeartbeats 8000000 in
theorem c_placed (w : World) (news : List (Addr × Obj)) (x dx sx sdx : Addr) (n n2 : Nat) (h1 h2 h3 h4 h5 h6 : Int) (k1 k2 k3 k4 k5 k6 to tb tb2 tu tw : Tok) (es : List DictEntry) (b bu wt : Int) (O : Array UInt8) (ks : List Int) (hO : KBw.bInts O = ks) (hks : ks.length ≤ 60) (hb : 1 ≤ b ∧ b < 1000) (hbu : 1 ≤ bu ∧ bu ≤ 1000) :
   CtrL 16 w 69 [.ref x] ((x, instObj 93 dx) :: (dx, dictOf (⟨h1, .str "source" k1, .bytes O to⟩ :: ⟨h2, .str "block" k2, .int b tb⟩ :: ⟨h3, .str "bucket" k3, .int bu tu⟩ :: ⟨h4, .str "sums" k4, .ref sx⟩ :: es) n) :: (sx, instObj 45 sdx) :: (sdx, dictOf [⟨h5, .str "block" k5, .int b tb2⟩, ⟨h6, .str "weight" k6, .int wt tw⟩] n2) :: news)
     (fun r tl => ∃ d od kvs tl', r = .ref d ∧ tl = (d, od) :: tl' ∧ (d == sysModules) = false ∧ od.IsDictOf (intKind PySem.Challenge.rw_pb0086_01.row.prog w) kvs ∧ DL tl' kvs ((PP ks b (nbk ks.length b)).map fun q => (q.1, cap bu q.2))) := by
  w_top off; unfold CtrL; k_fill; intro mean mg mb dp un gd cn cs a ccd cl outer A₀ base h₀ L m s Q E B F X N T hk hd hu hret; refine wpAny_call ?_; k_dflt (refine' code_defC ?k1 ?k2 ?k3 ?k4 ?k5 ?kA ?kF ?kK ?k6 ?k7 ?k8 ?k9 ?kB ?kD ?_ ?c2 ?c3 ?c4; (case kA => exact rfl); (case kF => exact rfl); (case kK => first | exact rfl | assumption); (case k1 => k_asm); (case k2 => k_asm); (case k3 => k_asm); (case k4 => k_asm); (case k5 => k_asm); (case k6 => k_is); (case k7 => k_is); (case k8 => ktr_room); (case k9 => first | exact BindsTo.of_eq rfl | exact binds_K (by k_in) rfl (by k_is) rfl rfl rfl); (case kB => exact rfl); (case kD => decide +kernel); (case c2 => exact rfl); (case c3 => exact rfl); (case c4 => exact rfl); k_whole; intro g' L' h' tk' cells' FG' F' N' Y' B' X' T' l1; (try k_lt l1); k_cells Y'; (try simp only [List.cons_append, List.nil_append] at N'); (try dsimp only); (try k_lift B'); (try k_fold))
  have hnL : Off L' news := off_lt l1.2.2.2.2
  k_steps
  refine Hold.mk ?_
  rename_i o1 o2 o3 o4 e1 e2 e3 e4 d h1' od lo hs fs hdI fi hl1 D h2' hl2 h3' h4' of ef h5' F5 N5 h6' tk5 t1' u1' v1' hrg lF lN hkeep
  k_dflt (with_unfolding_all refine' kf_range (σ := Obj × List (Int × Value) × List (Addr × Obj) × Value × Obj)
                                        (fun c => (L' + 1 + 1 + 1 + 1, o1) :: (L' + 1 + 1 + 1, c.2.2.2.2) :: (L' + 1 + 1, of) :: (L' + 1, o4) :: (x, instObj 93 dx) :: (dx, dictOf (⟨h1, .str "source" k1, .bytes O to⟩ :: ⟨h2, .str "block" k2, .int b tb⟩ :: ⟨h3, .str "bucket" k3, .int bu tu⟩ :: ⟨h4, .str "sums" k4, .ref sx⟩ :: es) n) :: (sx, instObj 45 sdx) :: (sdx, dictOf [⟨h5, .str "block" k5, .int b tb2⟩, ⟨h6, .str "weight" k6, .int wt tw⟩] n2) :: (d, c.1) :: (c.2.2.1 ++ news))
                                        (fun c => [(Str.ofString "last", c.2.2.2.1)]) []
                                        (fun i c => c.1.IsDictOf (intKind PySem.Challenge.rw_pb0086_01.row.prog w) c.2.1 ∧ DL c.2.2.1 c.2.1 (PP ks b i) ∧ (c.2.1.map (·.2)).Nodup ∧ (∀ p ∈ c.2.2.1, d < p.1) ∧ c.2.1.length ≤ i ∧ LastIs ks b i c.2.2.2.1 ∧ ∃ v, c.2.2.2.2.data = .cell v)
                                        (od, [], [], .none, o2) rfl hrg (small_ok (by omega) (by omega) hb.1 (by omega)) (nbk_is hb.1 (by omega)) lF ?kn ?kk ?kp ?turn ?done)
  case kn => exact cb_drop lN (by kst_in)
  case kk => kst_all
  case kp => exact ⟨hdI, trivial, List.nodup_nil, fun _ h => (nomatch h), Nat.le_refl 0, .inl ⟨rfl, rfl⟩, _, e2⟩
  case turn =>
    intro c I i t u h tk own oI hin hown hfp hI hP' F1 N1
    refine wp_gen fun R9 E9 hR9 => ?_
    obtain ⟨od1, kvs, tl, lv, ov⟩ := c
    dsimp only [kstB] at hI hP' F1 N1
    obtain ⟨hd1, hdl, hvn, hgt, hlen, hlast, v0, hov⟩ := hP'
    have hA1 := nbk_lt hb.1 hin
    have hA2 : 0 ≤ (i : Int) * b := Int.mul_nonneg (by omega) (by omega)
    have hi100 : i ≤ 100 := by have := nbk_le (len := ks.length) hb.1 (by omega); omega
    rw [Int.zero_add] at F1
    simp only [List.cons_append] at N1
    have hdL : @LT.lt Nat _ (L' + 4) d := by have := hl1.1; omega
    have hltn : ∀ p ∈ news, p.1 < L' := allLt_mem l1.2.2.2.2
    have hdI' : d ≠ I := hI (d, od1) (.tail _ (.tail _ (.tail _ (.tail _ (.tail _ (.tail _ (.tail _ (.tail _ (.head _)))))))))
    have hdl1' : ∀ p ∈ news, p.1 < d := fun p hp => Nat.lt_trans (hltn p hp) (Nat.lt_of_le_of_lt (Nat.le_add_right _ _) hdL)
    have hside := own_side N1 (I := I) (oI := oI) (by simp [hown]) (hI (_, o4) (.tail _ (.tail _ (.tail _ (.head _))))) (hI (_, of) (.tail _ (.tail _ (.head _)))) (hI (_, ov) (.tail _ (.head _))) (hI (_, o1) (.head _))
    have hoff : Off L' (tl ++ news ++ own) := off_all hltn hgt hdL hfp hside
    have hoffd : ∀ p ∈ tl ++ news ++ own, p.1 ≠ d := off_d hltn hgt hdL hfp hdI'
    k_steps
    refine Hold.mk ?_
    (rename News _ _ _ _ => nN; k_dflt (refine' CtrL.useL (ps := [_, _]) nN (c_of w _ sx sdx n2 h5 h6 k5 k6 tb2 tw to _ b wt _ O ks hO (by omega) ⟨by omega, by omega⟩ ⟨by omega, by omega⟩) ?kM ?kB ?kF ?kX ?kT ?kK ?kd ?ku ?_; (case kM => exact List.forall_mem_cons.mpr ⟨by k_mem, List.forall_mem_cons.mpr ⟨by k_mem, (fun _ hp => nomatch hp)⟩⟩); (case kB => k_asm); (case kF => k_asm); (case kX => k_asm); (case kT => k_asm); (case kK => first | exact rfl | assumption); (case kd => ktr_room); (case ku => ktr_units)); intro r9 tl9 h9 tk9 F9 N9 l9 o9; clear nN)
    obtain ⟨rfl, t9, rfl⟩ := o9
    rw [List.append_nil] at N9
    k_steps
    refine Hold.mk ?_
    refine wpAny_If (wp_join_bool (keptV ks b i) ?cond ?rest)
    case cond =>
      intro Q8 hQ8
      rcases hlast with ⟨hi0, rfl⟩ | ⟨hi1, tlast, rfl⟩
      · have hkept : keptV ks b i = true := by rw [hi0]; rfl
        rw [hkept] at hQ8
        k_steps
        exact hQ8 _
      · k_steps
        rw [keptV_more hi1] at hQ8
        exact hQ8 _
    case rest =>
      intro tk9
      dsimp only
      cases hkept : keptV ks b i with
      | true =>
        rw [if_pos rfl]
        k_steps
        refine Hold.mk ?_
        rename Obj => ov2
        rename ov2.data = _ => hov2
        refine kob_method PySem.F.slot_dict_setdefault PySem.F.type_dict_setdefault (by k_asm) (by k_mem) hd1 ?_
        k_steps
        refine Hold.mk ?_
        rename Addr => lz
        rename Fr _ _ _ _ => zF
        rename News _ _ _ _ => zN
        rename _ ∧ _ => hq
        have hq0 := hq
        repeat' (obtain ⟨_, hq⟩ := hq)
        have hlt' := allLt_mem hq
        have hltl : ∀ p ∈ tl, p.1 < lz := fun p hp => hlt' p (List.mem_append.mpr (.inl (List.mem_append.mpr (.inl hp))))
        rcases hdl.look (val ks b i) with ⟨hv, hf⟩ | ⟨l, vs, n, xs, hv, hm, hi, hf⟩
        · refine kob_setdef_new zF zN (by k_updF) hd1 lo (intKind_is _ _ _ _) (PySem.F.args_dict_setdefault_3 _ _ _) hv (by rw [sizeLine_eq]; omega) ?_
          intro h8 od8 F8 N8 hd8
          have hrl := all_ne hlt'
          have hlk : [((i : Int) * b)] = lookD (PP ks b i) (val ks b i) ++ [((i : Int) * b)] := by unfold lookD; rw [hf]; rfl
          refine listMethod_K N8 (List.Mem.head _) PySem.F.slot_list_append PySem.F.type_list_append ?_
          k_steps
          refine Hold.mk ?_
          refine append_K F8 N8 (by k_upd) ?_ (by rw [sizeLine_eq]; simp)
          intro h10 F10 N10
          clear zF zN F8 N8
          k_steps
          rename Fr _ _ _ _ => zF
          rename News _ _ _ _ => zN
          refine hR9 _ _ (kf_end (od8, stored kvs (val ks b i) (.ref lz), (lz, listOf [(Value.int ((i : Int) * b) t)].toArray 1) :: tl, .int (val ks b i) t9, ov2) zF zN pl_sub1 pl_own1 (pl_ne hI rfl rfl (List.forall_mem_cons.mpr ⟨?_, fun p hp => hI p (.tail _ (.tail _ (.tail _ (.tail _ (.tail _ (.tail _ (.tail _ (.tail _ (.tail _ (List.mem_append.mpr (.inl hp)))))))))))⟩)) (by kst_all) (by intro z h1 h2 _; have h3 := h2 _ (List.mem_singleton.mpr rfl); dsimp only at h3; simp [h1, h3]) ⟨hd8, ?_, vals_new hdl hvn hltl hv, List.forall_mem_cons.mpr ⟨?_, hgt⟩, Nat.le_trans (stored_len _ _ _) (Nat.succ_le_succ hlen), .inr ⟨Nat.succ_le_succ (Nat.zero_le _), t9, rfl⟩, _, hov2⟩)
          · exact Nat.ne_of_gt (hlt' (I, oI) (List.mem_append.mpr (.inr hown)))
          · dsimp only; rw [PP_kept hkept]; exact DL.ins (hdl.mono fun p hp => .tail _ hp) (.head _) (hlk ▸ IntsAre.cons _ _ IntsAre.nil)
          · have : @LT.lt Nat _ d lz := by omega
            exact this
        · refine kob_setdef_there zN (by k_mem) hd1 lo (intKind_is _ _ _ _) (PySem.F.args_dict_setdefault_3 _ _ _) hv (by rw [sizeLine_eq]; omega) ?_
          have hm' : (l, listOf vs.toArray n) ∈ tl ++ news ++ own := List.mem_append.mpr (.inl (List.mem_append.mpr (.inl hm)))
          have hlk : xs ++ [((i : Int) * b)] = lookD (PP ks b i) (val ks b i) ++ [((i : Int) * b)] := by unfold lookD; rw [hf]; rfl
          have hxl := PP_len i _ (List.mem_of_find?_eq_some hf)
          have hvl := hi.length
          dsimp only at hxl
          refine listMethod_K zN (.tail _ (.tail _ (.tail _ (.tail _ (.tail _ (.tail _ (.tail _ (.tail _ (.tail _ (.tail _ hm')))))))))) PySem.F.slot_list_append PySem.F.type_list_append ?_
          k_steps
          refine Hold.mk ?_
          have hdl1 : @LT.lt Nat _ d l := hgt _ hm
          have hlI : l ≠ I := hI (l, listOf vs.toArray n) (.tail _ (.tail _ (.tail _ (.tail _ (.tail _ (.tail _ (.tail _ (.tail _ (.tail _ (List.mem_append.mpr (.inl hm)))))))))))
          have hrl : ∀ p ∈ tl.filter (fun p => decide (p.1 ≠ l)) ++ news ++ own, p.1 ≠ l := off_l hfp hdl1' hdl1 hlI
          have N2 := cb_drop zN (fun p hp => List.Mem.tail _ (pl_pull (l := l) hm p hp))
          refine append_K zF N2 (by k_upd) ?_ (by rw [sizeLine_eq, List.size_toArray]; omega)
          intro h10 F10 N10
          clear zF zN N2
          k_steps
          rename Fr _ _ _ _ => zF
          rename News _ _ _ _ => zN
          simp only [List.push_toArray] at zN
          refine hR9 _ _ (kf_end (od1, kvs, (l, listOf (vs ++ [(Value.int ((i : Int) * b) t)]).toArray (n + 1)) :: tl.filter (fun p => decide (p.1 ≠ l)), .int (val ks b i) t9, ov2) zF zN pl_sub2 pl_own2 (pl_ne hI rfl rfl (List.forall_mem_cons.mpr ⟨hlI, fun p hp => hI p (.tail _ (.tail _ (.tail _ (.tail _ (.tail _ (.tail _ (.tail _ (.tail _ (.tail _ (List.mem_append.mpr (.inl (List.mem_filter.mp hp).1)))))))))))⟩)) (by kst_all) (by intro z h1 h2 _; have h3 := h2 _ (List.mem_singleton.mpr rfl); dsimp only at h3; simp [h1, h3]) ⟨hd1, ?_, hvn, List.forall_mem_cons.mpr ⟨hdl1, fun p hp => hgt p (List.mem_filter.mp hp).1⟩, Nat.le_succ_of_le hlen, .inr ⟨Nat.succ_le_succ (Nat.zero_le _), t9, rfl⟩, _, hov2⟩)
          dsimp only; rw [PP_kept hkept]
          exact DL.app hdl (PyProof.Rows.keysNodup_of_isDictOf hd1) hvn hv (.head _) (hlk ▸ hi.append (IntsAre.cons _ _ IntsAre.nil)) (fun p hp e => .tail _ (List.mem_filter.mpr ⟨hp, by simpa using e⟩))
      | false =>
        rw [if_neg Bool.false_ne_true]
        k_steps
        have hnk : keptV ks b i = false := hkept
        rename Obj => ov2
        rename ov2.data = _ => hov2
        rename Fr _ _ _ _ => zF
        rename News _ _ _ _ => zN
        exact hR9 _ _ (kf_end (od1, kvs, tl, .int (val ks b i) t9, ov2) zF zN pl_sub3 pl_own3 (pl_ne hI rfl rfl (fun p hp => hI p (.tail _ (.tail _ (.tail _ (.tail _ (.tail _ (.tail _ (.tail _ (.tail _ (.tail _ (List.mem_append.mpr (.inl hp))))))))))))) (by kst_all) (by intro z h1 h2 _; have h3 := h2 _ (List.mem_singleton.mpr rfl); dsimp only at h3; simp [h1, h3]) ⟨hd1, by dsimp only; rw [PP_not hnk]; exact hdl, hvn, hgt, Nat.le_succ_of_le hlen, .inr ⟨Nat.succ_le_succ (Nat.zero_le _), t9, rfl⟩, _, hov2⟩)
  case done =>
    intro c u h tk hP' F1 N1
    obtain ⟨od1, kvs, tl, lv, ov⟩ := c
    dsimp only [kstB] at hP' F1 N1
    obtain ⟨hd1, hdl, hvn, hgt, hlen, hlast, v0, hov⟩ := hP'
    have hnb := nbk_le (len := ks.length) hb.1 (by omega)
    k_steps
    refine Hold.mk ?_
    rename Fr _ _ _ _ => zF
    rename News _ _ _ _ => zN
    refine sorted_dict rfl zF zN (by k_mem) hd1 lo (by omega) ?_
    intro lD vS sk cS h11 tk11 F11 N11 l11 hiS hpS _
    have hdL : @LT.lt Nat _ (L' + 4) d := by have := hl1.1; omega
    have hltn : ∀ p ∈ news, p.1 < L' := allLt_mem l1.2.2.2.2
    have hdlD : @LT.lt Nat _ d lD := l11 (d, od1) (by simp)
    have hdl1' : ∀ p ∈ news, p.1 < d := fun p hp => Nat.lt_trans (hltn p hp) (Nat.lt_of_le_of_lt (Nat.le_add_right _ _) hdL)
    have hB : ∀ q ∈ (x, instObj 93 dx) :: (dx, dictOf (⟨h1, .str "source" k1, .bytes O to⟩ :: ⟨h2, .str "block" k2, .int b tb⟩ :: ⟨h3, .str "bucket" k3, .int bu tu⟩ :: ⟨h4, .str "sums" k4, .ref sx⟩ :: es) n) :: (sx, instObj 45 sdx) :: (sdx, dictOf [⟨h5, .str "block" k5, .int b tb2⟩, ⟨h6, .str "weight" k6, .int wt tw⟩] n2) :: news, q.1 < d := List.forall_mem_cons.mpr ⟨hl1.2.2.2.2.1, List.forall_mem_cons.mpr ⟨hl1.2.2.2.2.2.1, List.forall_mem_cons.mpr ⟨hl1.2.2.2.2.2.2.1, List.forall_mem_cons.mpr ⟨hl1.2.2.2.2.2.2.2.1, hdl1'⟩⟩⟩⟩
    have hkn := PyProof.Rows.keysNodup_of_isDictOf hd1
    rw [hdl.keys] at hkn hpS
    k_steps
    refine Hold.mk ?_
    rename Fr _ _ _ _ => zF
    rename News _ _ _ _ => zN
    k_dflt (with_unfolding_all refine' kft_list (σ := Obj × List (Int × Value) × List (Addr × Obj) × Obj × Obj) (l := lD) (vs := vS) (ns := sk) (nn := cS)
                                        (fun c => (L' + 1 + 1 + 1 + 1, c.2.2.2.2) :: (L' + 1 + 1 + 1, c.2.2.2.1) :: (L' + 1 + 1, of) :: (L' + 1, o4) :: (x, instObj 93 dx) :: (dx, dictOf (⟨h1, .str "source" k1, .bytes O to⟩ :: ⟨h2, .str "block" k2, .int b tb⟩ :: ⟨h3, .str "bucket" k3, .int bu tu⟩ :: ⟨h4, .str "sums" k4, .ref sx⟩ :: es) n) :: (sx, instObj 45 sdx) :: (sdx, dictOf [⟨h5, .str "block" k5, .int b tb2⟩, ⟨h6, .str "weight" k6, .int wt tw⟩] n2) :: (lD, listOf vS.toArray cS) :: (d, c.1) :: (c.2.2.1 ++ news))
                                        (fun c => []) []
                                        (fun j c => c.1.IsDictOf (intKind PySem.Challenge.rw_pb0086_01.row.prog w) c.2.1 ∧ DL c.2.2.1 c.2.1 (capD bu (sk.take j) (PP ks b (nbk ks.length b))) ∧ ((∀ p ∈ c.2.2.1, p.1 ≠ d) ∧ (∀ p ∈ c.2.2.1, ∀ q ∈ (x, instObj 93 dx) :: (dx, dictOf (⟨h1, .str "source" k1, .bytes O to⟩ :: ⟨h2, .str "block" k2, .int b tb⟩ :: ⟨h3, .str "bucket" k3, .int bu tu⟩ :: ⟨h4, .str "sums" k4, .ref sx⟩ :: es) n) :: (sx, instObj 45 sdx) :: (sdx, dictOf [⟨h5, .str "block" k5, .int b tb2⟩, ⟨h6, .str "weight" k6, .int wt tw⟩] n2) :: news, q.1 ≠ p.1) ∧ Off L' c.2.2.1) ∧ c.2.1.length ≤ 60 ∧ (∃ v, c.2.2.2.1.data = .cell v) ∧ ∃ v, c.2.2.2.2.data = .cell v)
                                        (od1, kvs, tl, ov, o1) rfl ?kl hiS (by intro _ _; rfl) zF ?kn ?kk ?kp ?turn ?done)
    case kl => k_mem
    case kn => exact cb_drop zN (by kst_in)
    case kk => exact (fun _ h => nomatch h)
    case kp => exact ⟨hd1, by rw [List.take_zero, capD_nil]; exact hdl, ⟨fun p hp => Nat.ne_of_gt (hgt p hp), fun p hp q hq => Nat.ne_of_lt (Nat.lt_trans (hB q hq) (hgt p hp)), fun p hp => .inr (Nat.lt_trans hdL (hgt p hp))⟩, (show kvs.length ≤ 60 by omega), ⟨_, hov⟩, _, e1⟩
    case turn =>
      intro c I j v t u s₁ own oI hx hown hfp hI hP' F2 N2
      refine wp_gen2 fun R9 E9 hR9 => ?_
      obtain ⟨od2, kvs2, tl2, ov2, om2⟩ := c
      dsimp only [kstB] at hI hP' F2 N2
      obtain ⟨hd2, hdl2, ⟨hgt2, hap2, hof2⟩, hlen2, ⟨v2, hov2⟩, v3, hom2⟩ := hP'
      simp only [List.cons_append] at N2
      have hdI' : d ≠ I := hI (d, od2) (.tail _ (.tail _ (.tail _ (.tail _ (.tail _ (.tail _ (.tail _ (.tail _ (.tail _ (.head _))))))))))
      have hside := own_side N2 (I := I) (oI := oI) (.tail _ (.tail _ (.tail _ (.tail _ (.tail _ (.tail _ (.tail _ (.tail _ (.tail _ (.tail _ (List.mem_append.mpr (.inr hown)))))))))))) (hI (_, o4) (.tail _ (.tail _ (.tail _ (.head _))))) (hI (_, of) (.tail _ (.tail _ (.head _)))) (hI (_, ov2) (.tail _ (.head _))) (hI (_, om2) (.head _))
      have hoff : Off L' (tl2 ++ news ++ own) := off_all2 (off_lt' hltn) hof2 hfp hside (Nat.lt_trans hdL hdlD)
      have hoffd : ∀ p ∈ tl2 ++ news ++ own, p.1 ≠ d := off_d2 hgt2 hdl1' hfp hdI' (Nat.ne_of_gt hdlD)
      have hlit : ∀ oa ob : Obj, ∀ p ∈ (L' + 1 + 1 + 1 + 1, oa) :: (L' + 1 + 1 + 1, ob) :: (L' + 1 + 1, of) :: (L' + 1, o4) :: (x, instObj 93 dx) :: (dx, dictOf (⟨h1, .str "source" k1, .bytes O to⟩ :: ⟨h2, .str "block" k2, .int b tb⟩ :: ⟨h3, .str "bucket" k3, .int bu tu⟩ :: ⟨h4, .str "sums" k4, .ref sx⟩ :: es) n) :: (sx, instObj 45 sdx) :: (sdx, dictOf [⟨h5, .str "block" k5, .int b tb2⟩, ⟨h6, .str "weight" k6, .int wt tw⟩] n2) :: (lD, listOf vS.toArray cS) :: (tl2 ++ news ++ own), p.1 ≠ d := by
        intro oa ob
        have a1 := hl1
        obtain ⟨a1, a2, a3, a4, a5, a6, a7, a8, _⟩ := a1
        exact List.forall_mem_cons.mpr ⟨Nat.ne_of_lt a1, List.forall_mem_cons.mpr ⟨Nat.ne_of_lt a2, List.forall_mem_cons.mpr ⟨Nat.ne_of_lt a3, List.forall_mem_cons.mpr ⟨Nat.ne_of_lt a4, List.forall_mem_cons.mpr ⟨Nat.ne_of_lt a5, List.forall_mem_cons.mpr ⟨Nat.ne_of_lt a6, List.forall_mem_cons.mpr ⟨Nat.ne_of_lt a7, List.forall_mem_cons.mpr ⟨Nat.ne_of_lt a8, List.forall_mem_cons.mpr ⟨Nat.ne_of_gt hdlD, hoffd⟩⟩⟩⟩⟩⟩⟩⟩⟩
      have hvk : ((capD bu (sk.take j) (PP ks b (nbk ks.length b))).find? fun q => q.1 = v) ≠ none := capD_has hpS hx
      have hnLD : nbk ks.length b ≤ 60 := by omega
      rcases hdl2.look v with ⟨hv, hf⟩ | ⟨l, vs, nl, xs, hv, hm, hi, hf⟩
      · exact absurd hf hvk
      obtain ⟨yz, hys, hxs⟩ := capD_find hf
      have hxl : xs.length ≤ 60 := by
        have := PP_len _ _ hys
        dsimp only at this
        rw [hxs]; split
        · have := cap_len2 (mo := bu) (l := yz) (by omega); omega
        · omega
      have hm' : (l, listOf vs.toArray nl) ∈ tl2 ++ news ++ own := List.mem_append.mpr (.inl (List.mem_append.mpr (.inl hm)))
      k_steps
      refine Hold.mk ?_
      rename News _ _ _ _ => nN
      refine len_ints_fit (isL_news nN (.tail _ (.tail _ (.tail _ (.tail _ (.tail _ (.tail _ (.tail _ (.tail _ (.tail _ (.tail _ hm'))))))))))) hi (by omega) ?_
      have htk : sk.take (j + 1) = sk.take j ++ [v] := by rw [List.take_add_one, hx]; rfl
      k_steps
      · refine Hold.mk ?_
        rename _ ∧ _ => ho1
        rename IntsAre _ (List.map _ (rangeKs _ _)) => hI9
        rename (bu < (List.length xs : Int)) => hlt9
        rename Fr _ _ _ _ => zF
        rename News _ _ _ _ => zN
        rename Obj.data _ = Data.cell (some (Value.int v t)) => hov9
        rename Obj.data _ = Data.cell (some (Value.int (List.length xs : Int) _)) => hom9
        have ho2 := ho1.2.2.2.2.2.2.2.2.2
        have hDL := (zN _ (.head _)).2.1
        have hD1 := own_side zN (.head _) ho1.2.2.2.1 ho1.2.2.1 ho1.2.1 ho1.1
        have hoT := off1_mem ho2.2
        have hdD := ho2.1
        refine kda_set zF (cb_drop zN pl2_pull) (.head (List.forall_mem_cons.mpr ⟨Ne.symm ho2.1, fun p hp => hlit _ _ p hp⟩)) hd2 (intKind_is _ _ _ _) (by rw [sizeLine_eq]; exact Nat.le_trans hlen2 (by decide)) ?_
        intro h8 od8 F8 N8 hd8
        clear zF zN
        k_steps
        rename Fr _ _ _ _ => zF
        rename News _ _ _ _ => zN
        have hbr : xs = yz := capD_raw (by omega) hxs hlt9
        refine hR9 _ _ (kft_end (od8, stored kvs2 v (.ref _), (_, _) :: tl2, _, _) zF zN pl3_sub pl3_own (pl3_ne hI rfl rfl rfl ?_) (fun _ h => nomatch h) (by intro z _ h2; simp) ⟨hd8, ?_, ⟨?_, ?_, ?_⟩, ?_, ⟨_, hov9⟩, _, hom9⟩)
        · exact List.forall_mem_cons.mpr ⟨Ne.symm (hoT (I, oI) (List.mem_append.mpr (.inr hown))), fun p hp => hI p (.tail _ (.tail _ (.tail _ (.tail _ (.tail _ (.tail _ (.tail _ (.tail _ (.tail _ (.tail _ (List.mem_append.mpr (.inl hp))))))))))))⟩
        · dsimp only
          rw [htk, capD_step hkn hys, ← hbr]
          rw [cap_rangeKs (by omega) hlt9] at hI9
          exact DL.store (hdl2.mono fun p hp => .tail _ hp) hv (.head _) hI9
        · exact List.forall_mem_cons.mpr ⟨Ne.symm hdD, hgt2⟩
        · exact List.forall_mem_cons.mpr ⟨List.forall_mem_cons.mpr ⟨ho1.2.2.2.2.1, List.forall_mem_cons.mpr ⟨ho1.2.2.2.2.2.1, List.forall_mem_cons.mpr ⟨ho1.2.2.2.2.2.2.1, List.forall_mem_cons.mpr ⟨ho1.2.2.2.2.2.2.2.1, fun q hq => hoT q (List.mem_append.mpr (.inl (List.mem_append.mpr (.inr hq))))⟩⟩⟩⟩, hap2⟩
        · exact List.forall_mem_cons.mpr ⟨hD1, hof2⟩
        · dsimp only
          rw [stored_there hv, List.length_map]; exact hlen2
      · rename Obj.data _ = Data.cell (some (Value.int v t)) => hov9
        rename Obj.data _ = Data.cell (some (Value.int (List.length xs : Int) _)) => hom9
        rename (¬ bu < (List.length xs : Int)) => hle9
        rename Fr _ _ _ _ => zF
        rename News _ _ _ _ => zN
        refine hR9 _ _ (kft_end (od2, kvs2, tl2, _, _) zF zN pl3_sub0 pl3_own0 (pl3_ne hI rfl rfl rfl (fun p hp => hI p (.tail _ (.tail _ (.tail _ (.tail _ (.tail _ (.tail _ (.tail _ (.tail _ (.tail _ (.tail _ (List.mem_append.mpr (.inl hp)))))))))))))) (fun _ h => nomatch h) (by intro z _ h2; simp) ⟨hd2, ?_, ⟨hgt2, hap2, hof2⟩, hlen2, ⟨_, hov9⟩, _, hom9⟩)
        dsimp only
        rw [htk, capD_same (by omega) hkn hys (by rw [← hxs]; omega)]
        exact hdl2
    case done =>
      intro c u h tk hP' F2 N2
      obtain ⟨od2, kvs2, tl2, ov2, om2⟩ := c
      dsimp only [kstB] at hP' F2 N2
      obtain ⟨hd2, hdl2, ⟨hgt2, hap2, hof2⟩, hlen2, _, _⟩ := hP'
      rw [List.take_length, capD_all (fun q hq => hpS.mem_iff.mpr (List.mem_map.mpr ⟨q, hq, rfl⟩))] at hdl2
      k_steps
      refine hret _ ((d, od2) :: tl2) _ _ (by k_asm) (cb_drop (by assumption) pl_done) ?_ ⟨d, od2, kvs2, tl2, rfl, rfl, lo, hd2, hdl2⟩
      intro q hq p hp
      rcases List.mem_cons.mp hp with rfl | hp
      · exact Nat.ne_of_lt (hB q hq)
      · exact hap2 p hp q hq
end Mine
namespace Mine
theorem all_ne' {d : Addr} {news : List (Addr × Obj)} (h : ∀ p ∈ news, p.1 < d) : ∀ p ∈ news, p.1 ≠ d := fun p hp => Nat.ne_of_lt (h p hp)
local macro_rules | `(tactic| k_all) => `(tactic| exact all_ne' (by assumption))
local macro_rules | `(tactic| k_all) => `(tactic| assumption)
local macro_rules | `(tactic| walk_at $x:str) => if ["call ref"].contains x.getString then `(tactic| refine Hold.out ?_) else Lean.Macro.throwUnsupported
theorem ix_sub1 {a b c d : Addr × Obj} {news : List (Addr × Obj)} : ∀ p ∈ a :: b :: c :: d :: news, p ∈ a :: b :: news ++ [c, d] := by
  intro p hp; simp only [List.mem_cons, List.mem_append, List.cons_append, List.not_mem_nil, or_false] at hp ⊢; grind
theorem ix_done {x d sx sdx : Addr × Obj} {news pl : List (Addr × Obj)} : ∀ p ∈ news ++ (x :: d :: sx :: sdx :: pl), p ∈ x :: d :: sx :: sdx :: (news ++ pl) := by
  intro p hp; simp only [List.mem_cons, List.mem_append] at hp ⊢; grind
set_option maxHeartbeats 8000000 in
theorem c_index (w : World) (news : List (Addr × Obj)) (O : Array UInt8) (ks : List Int) (b mo : Int) (t1 t2 t3 : Tok) (hO : KBw.bInts O = ks) (hks : ks.length ≤ 60) (hb : 1 ≤ b ∧ b < 1000) (hmo : 1 ≤ mo ∧ mo ≤ 1000)  :
   CtrL 32 w 93 [.bytes O t1, .int b t2, .int mo t3] news
     (fun r tl => ∃ x dx n g1 g2 g3 g4 g5 k1 k2 k3 k4 k5 tb tu sx sdx n2 g6 g7 k6 k7 tb2 tw d od kvs tl', r = .ref x ∧ tl = (x, instObj 93 dx) :: (dx, dictOf [⟨g1, .str "source" k1, .bytes O t1⟩, ⟨g2, .str "block" k2, .int b tb⟩, ⟨g3, .str "bucket" k3, .int mo tu⟩, ⟨g4, .str "sums" k4, .ref sx⟩, ⟨g5, .str "places" k5, .ref d⟩] n) :: (sx, instObj 45 sdx) :: (sdx, dictOf [⟨g6, .str "block" k6, .int b tb2⟩, ⟨g7, .str "weight" k7, .int (wpow (b - 1).toNat) tw⟩] n2) :: (d, od) :: tl' ∧ (d == sysModules) = false ∧ od.IsDictOf (intKind PySem.Challenge.rw_pb0086_01.row.prog w) kvs ∧ DL tl' kvs ((PP ks b (nbk ks.length b)).map fun q => (q.1, cap mo q.2))) := by
  w_top off; unfold CtrL; k_fill; intro mean mg mb dp un gd cn cs a ccd cl outer A₀ base h₀ L m s Q E B F X N T hk hd hu hret
  k_dflt (refine' call_cls (fI := 64) F X N ?k4 ?k5 ?k6 ?_; (case k4 => k_is); (case k5 => k_is); (case k6 => k_is))
  intro x' d' h' F' N' l1 l2
  k_lt2 l2
  k_dflt (refine' code_def ?k1 ?k2 ?k3 ?k4 ?k5 ?kA ?kF ?kK ?k6 ?k7 ?k8 ?k9 ?kB ?_ ?c2 ?c3 ?c4 ?c5; (case kA => exact rfl); (case kF => exact rfl); (case kK => first | exact rfl | assumption); (case k1 => k_asm); (case k2 => k_asm); (case k3 => k_asm); (case k4 => k_asm); (case k5 => k_asm); (case k6 => k_is); (case k7 => k_is); (case k8 => ktr_room); (case k9 => first | exact BindsTo.of_eq rfl | exact binds_K (by k_in) rfl (by k_is) rfl rfl rfl | fail "k_enter: no rule for these arguments"); (case c5 => decide); (case kB => exact locs rfl); (case c2 => exact rfl); (case c3 => exact rfl); (case c4 => exact rfl); k_whole; intro g' L' h' FG' F' N' B' X' T'; (try dsimp only); (try k_lift B'); (try k_fold))
  k_steps
  refine Hold.mk ?_
  have eb : (if b > 1 then b else 1) = b := by split <;> omega
  have em : (if mo > 1 then mo else 1) = mo := by split <;> omega
  rename News _ _ _ _ => zN
  simp only [eb, em] at zN ⊢
  (rename News _ _ _ _ => nN; k_dflt (refine' CtrL.useL (ps := []) nN (c_sum w _ _ b hb) ?kM ?kB ?kF ?kX ?kT ?kK ?kd ?ku ?_; (case kM => exact (by intro p hp; exact nomatch hp)); (case kB => k_asm); (case kF => k_asm); (case kX => k_asm); (case kT => k_asm); (case kK => first | exact rfl | assumption); (case kd => ktr_room); (case ku => first | ktr_units | (have hcL9 := cLine_is; simp only [units_under_make]; omega))); intro r9 tl9 h9 tk9 F9 N9 l9 o9; clear nN)
  obtain ⟨sx, sdx, sn, e1, e2, q1, q2, tb', tw', wt', rfl, hwt, rfl⟩ := o9
  have N10 := cb_drop N9 ix_sub1
  have l8 := l9
  have hx1 : sx ≠ d' := Ne.symm (l9 (d', _) (.tail _ (.head _)) _ (.head _))
  have hx2 : sdx ≠ d' := Ne.symm (l9 (d', _) (.tail _ (.head _)) _ (.tail _ (.head _)))
  have hx3 : sx ≠ x' := Ne.symm (l9 (x', _) (.head _) _ (.head _))
  have hx4 : sdx ≠ x' := Ne.symm (l9 (x', _) (.head _) _ (.tail _ (.head _)))
  replace hx1 := neN hx1
  replace hx2 := neN hx2
  replace hx3 := neN hx3
  replace hx4 := neN hx4
  k_steps
  refine Hold.mk ?_
  (rename News _ _ _ _ => nN; k_dflt (refine' CtrL.useL (ps := []) nN (c_placed w _ _ _ _ _ _ _ _ _ _ _ _ _ _ _ _ _ _ _ _ _ _ _ _ [] b mo _ O ks hO hks hb hmo) ?kM ?kB ?kF ?kX ?kT ?kK ?kd ?ku ?_; (case kM => exact (by intro p hp; exact nomatch hp)); (case kB => k_asm); (case kF => k_asm); (case kX => k_asm); (case kT => k_asm); (case kK => first | exact rfl | assumption); (case kd => ktr_room); (case ku => first | ktr_units | (have hcL9 := cLine_is; simp only [units_under_make]; omega))); intro r9 tl9 h9 tk9 F9 N9 l9 o9; clear nN)
  obtain ⟨pd, pod, pkv, ptl, rfl, rfl, plo, pdd, pDL⟩ := o9
  simp only [List.cons_append] at N9
  have hrest : ∀ p ∈ news ++ (pd, pod) :: ptl, p.1 ≠ d' := fun p hp => (List.mem_append.mp hp).elim (all_ne' (by assumption) p) fun hp => Ne.symm (l9 _ (.tail _ (.head _)) p hp)
  k_steps
  rename Fr _ _ _ _ => zF
  rename News _ _ _ _ => zN
  subst hwt
  refine hret _ ((x', _) :: (d', _) :: (sx, _) :: (sdx, _) :: (pd, pod) :: ptl) _ _ zF (cb_drop zN ix_done) ?_ ⟨x', d', _, _, _, _, _, _, _, _, _, _, _, _, _, sx, sdx, _, _, _, _, _, _, _, pd, pod, pkv, ptl, rfl, rfl, plo, pdd, pDL⟩
  intro q hq p hp
  have hqd : q.1 < d' := by have hall := l1; first | exact hall q hq | exact hall.2 q hq
  rcases List.mem_cons.mp hp with rfl | hp
  · exact Nat.ne_of_lt (by first | exact Nat.lt_trans hqd l2 | omega)
  rcases List.mem_cons.mp hp with rfl | hp
  · exact Nat.ne_of_lt hqd
  rcases List.mem_cons.mp hp with rfl | hp
  · exact l8 q (.tail _ (.tail _ hq)) _ (.head _)
  rcases List.mem_cons.mp hp with rfl | hp
  · exact l8 q (.tail _ (.tail _ hq)) _ (.tail _ (.head _))
  · exact l9 q (.tail _ (.tail _ (.tail _ (.tail _ hq)))) p hp
end Mine
namespace Mine
local macro_rules | `(tactic| k_all) => `(tactic| assumption)
local macro_rules | `(tactic| walk_at $x:str) => if ["pyIter ref", "getMethod ref", "binaryOp Add ref ref"].contains x.getString then `(tactic| refine Hold.out ?_) else Lean.Macro.throwUnsupported
local macro_rules | `(tactic| walk_at $x:str) => if ["compareOp Eq ref ref", "call builtin:list.append"].contains x.getString then `(tactic| refine Hold.out ?_) else Lean.Macro.throwUnsupported
theorem lm_end {h₀ h' : Heap} {L pg I : Addr} {m₀ m' : Str → Option Value} {vs : List Value} {n : Nat} {zs : List Int} {rest own nn : List (Addr × Obj)} {P : Addr × List Value × Nat × List Int → Prop} {s₁ : Shared} {tk : Nat} (F3 : Fr h₀ L h' m') (N3 : News h₀ L h' nn) (hs : ∀ p ∈ (pg, listOf vs.toArray n) :: (rest ++ own), p ∈ nn) (hI : ∀ p ∈ rest, p.1 ≠ I) (hDI : pg ≠ I)
    (hm : ∀ p ∈ [(Str.ofString "page", Value.ref pg)], m' p.1 = some p.2) (hr : ∀ z, z ≠ Str.ofString "cell" → (∀ p ∈ [(Str.ofString "page", Value.ref pg)], z ≠ p.1) → [Str.ofString "rest"].contains z = false → m' z = m₀ z) (hp : P (pg, vs, n, zs)) : InvEndF h₀ L I (KF (fun c => (c.1, listOf c.2.1.toArray c.2.2.1) :: rest) (fun c => [(Str.ofString "page", .ref c.1)]) (Str.ofString "cell") [Str.ofString "rest"] m₀ P) own s₁ { s₁ with heap := h', toks := tk } := by
  refine kf_end (pg, vs, n, zs) F3 N3 ?_ ?_ ?_ ?_ hr hp
  · intro p hp
    refine hs p ?_
    rcases List.mem_cons.mp hp with rfl | hp
    · exact .head _
    · exact .tail _ (List.mem_append.mpr (.inl hp))
  · exact fun p hp => hs p (.tail _ (List.mem_append.mpr (.inr hp)))
  · exact List.forall_mem_cons.mpr ⟨hDI, hI⟩
  · exact hm
theorem len_step1 {n i : Nat} (h : n + 8 ≤ 8 * 2 ^ i) : n + 1 + 8 ≤ 8 * 2 ^ (i + 1) := by
  rw [Nat.pow_succ]; omega
theorem len_step {n k i : Nat} (h : n + 8 ≤ 8 * 2 ^ i) (hk : k ≤ n ∨ k ≤ 8) : n + k + 8 ≤ 8 * 2 ^ (i + 1) := by
  rw [Nat.pow_succ]; omega
theorem len_max {n i : Nat} (h : n + 8 ≤ 8 * 2 ^ i) (hi : i ≤ 8) : n ≤ 2048 := by
  have : 2 ^ i ≤ 2 ^ 8 := Nat.pow_le_pow_right (by decide) hi
  omega
theorem getD_mem9 {zs : List Int} (h : 0 < (zs.length : Int)) : zs.getD (-1 + (zs.length : Int)).toNat 0 ∈ zs := by
  have e : (-1 + (zs.length : Int)).toNat < zs.length := by omega
  rw [List.getD_eq_getElem?_getD, List.getElem?_eq_getElem e]
  exact List.getElem_mem e
set_option maxHeartbeats 8000000 in
theorem c_source (w : World) (news : List (Addr × Obj)) (lc : Addr) (vC : List Value) (nC : Nat) (cz : List Int) (hInt : IntsAre vC cz) (hcr : ∀ c ∈ cz, 0 ≤ c ∧ c < 1000000) (hcl : cz.length ≤ 8) :
   CtrL 16 w 104 [.ref lc] ((lc, listOf vC.toArray nC) :: news)
     (fun r tl => tl = [] ∧ ∃ O t, r = .bytes O t ∧ (KBw.bInts O).length ≤ 24 ∧ ∀ c ∈ KBw.bInts O, 0 ≤ c ∧ c < 64) := by
  w_top off; unfold CtrL; k_fill; intro mean mg mb dp un gd cn cs a ccd cl outer A₀ base h₀ L m s Q E B F X N T hk hd hu hret; refine wpAny_call ?_; k_dflt cell_enter
  k_steps
  refine Hold.mk ?_
  rename (_ : Nat) < _ ∧ _ => hl1
  rename IntsAre _ _ => hInt
  rename Fr _ _ _ _ => lF
  rename News _ _ _ _ => lN
  rename_i l' h1' h2'
  k_dflt (with_unfolding_all refine' kf_list (σ := Addr × List Value × Nat × List Int) (l := lc) (vs := vC) (ns := cz) (nn := nC)
                                        (fun c => (c.1, listOf c.2.1.toArray c.2.2.1) :: (lc, listOf vC.toArray nC) :: news)
                                        (fun c => [(Str.ofString "page", .ref c.1)]) [Str.ofString "rest"]
                                        (fun i c => IntsAre c.2.1 c.2.2.2 ∧ (∀ z ∈ c.2.2.2, 0 ≤ z ∧ z < 64) ∧ (c.2.2.2.length + 8 ≤ 8 * 2 ^ i) ∧ (∀ p ∈ (lc, listOf vC.toArray nC) :: news, p.1 < c.1))
                                        (l', [], 0, []) rfl ?kl hInt lF lN ?kk ?kp ?turn ?done)
  case turn =>
    intro c I i k t u h tk own oI hx hown hfp hI hP' F1 N1
    refine wp_gen fun R9 E9 hR9 => ?_
    obtain ⟨pg, vs, n, zs⟩ := c
    dsimp only [kstB] at hI hP' F1 N1
    obtain ⟨hi, hz, hn, hpg⟩ := hP'
    have hk := hcr k (List.mem_of_getElem? hx)
    have hi8 : i < 8 := by have := (List.getElem?_eq_some_iff.mp hx).1; omega
    have hof : ∀ p ∈ (lc, listOf vC.toArray nC) :: news ++ own, p.1 ≠ pg := by
      intro p hp
      rcases List.mem_append.mp hp with hp | hp
      · exact Nat.ne_of_lt (hpg p hp)
      · rcases List.mem_cons.mp (hfp p hp) with e | e
        · rw [e]; exact Ne.symm (hI (pg, _) (.head _))
        · rw [List.mem_singleton.mp e]; exact Nat.ne_of_lt (hpg (lc, _) (.head _))
    have hm := len_max hn (by omega)
    k_steps
    · refine Hold.mk ?_
      refine listMethod_K (by assumption) (.head _) PySem.F.slot_list_append PySem.F.type_list_append ?_
      k_steps
      refine Hold.mk ?_
      rename Fr _ _ _ _ => zF
      rename News _ _ _ _ => zN
      simp only [List.cons_append] at zN
      refine append_K zF zN (by k_upd) ?_ (by rw [sizeLine_eq, List.size_toArray, hi.length]; omega)
      intro h10 F10 N10
      clear zF zN
      k_steps
      rename Fr _ _ _ _ => zF
      rename News _ _ _ _ => zN
      simp only [List.push_toArray] at zN
      refine hR9 _ _ (lm_end (zs := zs ++ [Int.fmod (Int.fdiv k 4) 64]) zF zN (fun p hp => hp) (fun p hp => hI p (.tail _ hp)) (hI (pg, _) (.head _)) (by kst_all) (by intro z h1 h2 h3; have h4 := h2 _ (List.mem_singleton.mpr rfl); dsimp only at h4; simp at h3; simp [h1, h3, h4]) ⟨hi.append (IntsAre.cons _ _ IntsAre.nil), ?_, ?_, hpg⟩)
      · dsimp only
        intro z hz'
        rcases List.mem_append.mp hz' with hz' | hz'
        · exact hz z hz'
        · rw [List.mem_singleton.mp hz']; exact ⟨fmod_lo _ (by decide), fmod_hi _ (by decide)⟩
      · dsimp only; rw [List.length_append]; exact len_step1 hn
    · refine Hold.mk ?_
      rename News _ _ _ _ => zN
      refine ke_eq_ints (ns := zs) (ms := []) (isL_news zN (.tail _ (.head _))) (isL_news zN (.head _)) hi IntsAre.nil (by ktr_units) ?_
      by_cases hz0 : zs = []
      · rw [decide_eq_true hz0]
        k_steps
        refine Hold.mk ?_
        refine listMethod_K zN (.tail _ (.head _)) PySem.F.slot_list_append PySem.F.type_list_append ?_
        k_steps
        refine Hold.mk ?_
        rename Fr _ _ _ _ => zF
        rename News _ _ _ _ => zN
        have zN9 := cb_drop zN (fun p hp => List.Mem.tail _ hp)
        simp only [List.cons_append] at zN9
        refine append_K zF zN9 (by k_upd) ?_ (by rw [sizeLine_eq, List.size_toArray, hi.length]; omega)
        intro h10 F10 N10
        clear zF zN zN9
        k_steps
        rename Fr _ _ _ _ => zF
        rename News _ _ _ _ => zN
        simp only [List.push_toArray] at zN
        refine hR9 _ _ (lm_end (zs := zs ++ [Int.fmod (Int.fdiv k 4) 64]) zF zN (fun p hp => hp) (fun p hp => hI p (.tail _ hp)) (hI (pg, _) (.head _)) (by kst_all) (by intro z h1 h2 h3; have h4 := h2 _ (List.mem_singleton.mpr rfl); dsimp only at h4; simp at h3; simp [h1, h3, h4]) ⟨hi.append (IntsAre.cons _ _ IntsAre.nil), ?_, ?_, hpg⟩)
        · dsimp only
          intro z hz'
          rcases List.mem_append.mp hz' with hz' | hz'
          · exact hz z hz'
          · rw [List.mem_singleton.mp hz']; exact ⟨fmod_lo _ (by decide), fmod_hi _ (by decide)⟩
        · dsimp only; rw [List.length_append]; exact len_step1 hn
      · rw [decide_eq_false hz0]
        have hpos : 0 < (zs.length : Int) := by have := List.length_pos_iff.mpr hz0; omega
        k_steps
        · refine Hold.mk ?_
          rename Fr _ _ _ _ => zF
          rename News _ _ _ _ => zN
          rename IntsAre _ _ => hI9
          have hq9 := fmod_lo (Int.fdiv k 4) (by decide : (0:Int) < 8)
          have hr9 := fmod_hi (Int.fdiv k 4) (by decide : (0:Int) < 8)
          have hl9 : (List.replicate (1 + (k.fdiv 4).fmod 8).toNat [zs.getD (-1 + (zs.length : Int)).toNat 0]).flatten.length = (1 + (k.fdiv 4).fmod 8).toNat := by rw [PyProof.Rows.lm_len_rep_flat]; simp
          refine add_lists_ints (hsz := by rw [sizeLine_eq, hl9]; omega) zF zN (isL_news zN (.tail _ (.tail _ (.tail _ (.head _))))) (isL_news zN (.head _)) hi hI9 ?_
          intro h2 F2 N2 hi2
          have hlt9 : ∀ p ∈ (lc, listOf vC.toArray nC) :: news ++ own, p.1 < _ := fun p hp => Heap.lt_size (zN p (.tail _ (.tail _ (.tail _ (.tail _ hp))))).1
          have hpg9 : pg < _ := Heap.lt_size (zN (pg, _) (.tail _ (.tail _ (.tail _ (.head _))))).1
          clear zF zN
          k_steps
          rename Fr _ _ _ _ => zF
          rename News _ _ _ _ => zN
          refine hR9 _ _ (lm_end (zs := zs ++ _) (n := 0) zF zN ?_ (fun p hp => hI p (.tail _ hp)) (Nat.ne_of_gt (hlt9 (I, oI) (List.mem_append.mpr (.inr hown)))) (by kst_all) (by intro z h1 h2 h3; have h4 := h2 _ (List.mem_singleton.mpr rfl); dsimp only at h4; simp at h3; simp [h1, h3, h4]) ⟨hi2, ?_, ?_, ?_⟩)
          · intro p hp
            rcases List.mem_cons.mp hp with rfl | hp
            · exact .head _
            · exact .tail _ (.tail _ (.tail _ (.tail _ (.tail _ hp))))
          · intro z hz'
            rcases List.mem_append.mp hz' with hz' | hz'
            · exact hz z hz'
            · obtain ⟨l9, hl9', hz''⟩ := List.mem_flatten.mp hz'; rw [List.eq_of_mem_replicate hl9'] at hz''; rw [List.mem_singleton.mp hz'']; exact hz _ (getD_mem9 hpos)
          · dsimp only; rw [List.length_append]; exact len_step hn (.inr (by rw [hl9]; omega))
          · intro p hp; exact Nat.lt_trans (hpg p hp) hpg9
        · exfalso
          have := fmod_lo (Int.fdiv k 4) hpos
          omega
        · refine Hold.mk ?_
          rename Fr _ _ _ _ => zF
          rename News _ _ _ _ => zN
          rename IntsAre _ _ => hI9
          have hl9 : (List.take (1 + (k.fdiv 4).fmod (zs.length : Int)).toNat zs).length ≤ zs.length := by rw [List.length_take]; exact Nat.min_le_right _ _
          refine add_lists_ints (hsz := by rw [sizeLine_eq]; omega) zF zN (isL_news zN (.tail _ (.tail _ (.head _)))) (isL_news zN (.head _)) hi hI9 ?_
          intro h2 F2 N2 hi2
          have hlt9 : ∀ p ∈ (lc, listOf vC.toArray nC) :: news ++ own, p.1 < _ := fun p hp => Heap.lt_size (zN p (.tail _ (.tail _ (.tail _ hp)))).1
          have hpg9 : pg < _ := Heap.lt_size (zN (pg, _) (.tail _ (.tail _ (.head _)))).1
          clear zF zN
          k_steps
          rename Fr _ _ _ _ => zF
          rename News _ _ _ _ => zN
          refine hR9 _ _ (lm_end (zs := zs ++ _) (n := 0) zF zN ?_ (fun p hp => hI p (.tail _ hp)) (Nat.ne_of_gt (hlt9 (I, oI) (List.mem_append.mpr (.inr hown)))) (by kst_all) (by intro z h1 h2 h3; have h4 := h2 _ (List.mem_singleton.mpr rfl); dsimp only at h4; simp at h3; simp [h1, h3, h4]) ⟨hi2, ?_, ?_, ?_⟩)
          · intro p hp
            rcases List.mem_cons.mp hp with rfl | hp
            · exact .head _
            · exact .tail _ (.tail _ (.tail _ (.tail _ hp)))
          · intro z hz'
            rcases List.mem_append.mp hz' with hz' | hz'
            · exact hz z hz'
            · exact hz z (List.mem_of_mem_take hz')
          · dsimp only; rw [List.length_append]; exact len_step hn (.inl hl9)
          · intro p hp; exact Nat.lt_trans (hpg p hp) hpg9
  case kl => k_mem
  case kk => kst_all
  case kp => exact ⟨IntsAre.nil, fun _ h => (nomatch h), Nat.le_refl 8, List.forall_mem_cons.mpr ⟨hl1.1, allLt_mem hl1.2⟩⟩
  case done =>
    intro c u h tk hP' F1 N1
    obtain ⟨pg, vs, n, zs⟩ := c
    dsimp only [kstB] at hP' F1 N1
    obtain ⟨hi, hz, hn, hpg⟩ := hP'
    have hm := len_max hn hcl
    k_steps
    rename Fr _ _ _ _ => zF
    rename News _ _ _ _ => zN
    rename IntsAre _ _ => hI9
    refine KBa.make_K zF zN rfl (isL_news zN (.head _)) hI9 (fun z hz' => ?_) (by rw [List.length_take]; exact Nat.le_trans (Nat.min_le_left _ _) (by decide)) ?_
    · have := hz z (List.mem_of_mem_take hz'); omega
    intro h2 t2 tk2 F2 N2 hin
    k_steps
    refine hret _ [] _ _ (by k_asm) (cb_drop (by k_asm) (fun p hp => .tail _ (.tail _ (by rw [List.append_nil] at hp; exact hp)))) (fun _ _ p hp => nomatch hp) ⟨rfl, _, _, rfl, ?_⟩
    rw [KBa.ints_make hin]
    exact ⟨by rw [List.length_take]; exact Nat.min_le_left _ _, fun c hc => hz c (List.mem_of_mem_take hc)⟩
end Mine
namespace Mine
section
variable {prog : Program} {w : World} {A : Around} {E : Value → Shared → Prop} {s : Shared} {env : Env} {h₀ : Heap} {x : Str} {body : List Stmt} {Q : Flow → Shared → Prop} {K : Type} [DecidableEq K] {knd : KeyKind prog w K}
theorem iter_dictF {d : Addr} {od : Obj} {kvs : List (K × Value)} {m₀ : Str → Option Value} {news : List (Addr × Obj)} (J : Nat → (Str → Option Value) → List (Addr × Obj) → Prop)
    (hh : A.handled = none) (hm : (d, od) ∈ news) (hd : od.IsDictOf knd kvs) (lo : (d == sysModules) = false) (F : Fr h₀ env.locals s.heap m₀) (N : News h₀ env.locals s.heap news) (hj : J 0 m₀ news)
    (turn : ∀ I i k z v m₁ nx h tk own oI, kvs[i]? = some (k, z) → knd.is k v = true → (I, oI) ∈ own → (∀ p ∈ own, p.1 ∈ [I, d]) → (∀ p ∈ nx, p.1 ≠ I) → J i m₁ nx → Fr h₀ env.locals h (fun y => if y = x then some v else m₁ y) → News h₀ env.locals h (nx ++ own) →
      wpAny (model prog w) A (execs body env) (InvPostF h₀ env.locals I (J (i + 1)) own { s with heap := h, toks := tk } Q) E { s with heap := h, toks := tk })
    (done : ∀ m₁ nx h tk, J kvs.length m₁ nx → Fr h₀ env.locals h m₁ → News h₀ env.locals h nx → Q .next { s with heap := h, toks := tk }) :
    wpAny (model prog w) A (pyIter (.ref d)) (fun it s₂ => LoopAtV prog w A h₀ env x body Q E it s₂) E s := by
  obtain ⟨ep, hat⟩ := (kda_dict N hm hd).dictAt
  have hne : d ≠ s.heap.objs.size := Nat.ne_of_lt hat.lt_size
  refine wpAny_pyIter_dict lo hat ?_
  have W := Walks.dictKeys (knd := knd) hh s.heap.objs.size d hne kvs ep
  refine loop_free J W ?_ ?_ (next_is_new F) ?_ ⟨⟨_, Heap.get?_push_size _ rfl, rfl, rfl⟩, hat.push _⟩ (F.push _) (fun p hp => ⟨Heap.get?_push_of_some _ (N p hp).1, (N p hp).2⟩) hj ?_ ?_
  · rintro i h ⟨⟨o, ho, _⟩, _⟩; exact ⟨o, ho⟩
  · intro hm'
    rcases List.mem_cons.mp hm' with e | hm'
    · exact absurd F.ns.lt (e ▸ Nat.lt_irrefl _)
    · exact (N _ hm).2.1 ((List.mem_singleton.mp hm').symm)
  · intro p hp hI
    exact absurd (Heap.lt_size (N p hp).1) (hI ▸ Nat.lt_irrefl _)
  · rintro i v m₁ nx h tk own oI hin ⟨k, z, hx, hk⟩ hm hfp hn hJ F₁ N₁
    exact turn _ i k z v m₁ nx h tk own oI hx hk hm hfp hn hJ F₁ N₁
  · exact done
theorem kf_dict {σ : Type} {d : Addr} {od : Obj} {kvs : List (K × Value)} {m₀ : Str → Option Value} (Led : σ → List (Addr × Obj)) (ps : σ → List (Str × Value)) (stored : List Str) (P : Nat → σ → Prop) (c₀ : σ)
    (hh : A.handled = none) (hm : (d, od) ∈ Led c₀) (hd : od.IsDictOf knd kvs) (lo : (d == sysModules) = false) (F : Fr h₀ env.locals s.heap m₀) (N : News h₀ env.locals s.heap (Led c₀)) (hk : ∀ p ∈ ps c₀, m₀ p.1 = some p.2) (hp : P 0 c₀)
    (turn : ∀ (c : σ) I i k z v (u : Str → Option Value) h tk own oI, kvs[i]? = some (k, z) → knd.is k v = true → (I, oI) ∈ own → (∀ p ∈ own, p.1 ∈ [I, d]) → (∀ p ∈ Led c, p.1 ≠ I) → P i c →
      Fr h₀ env.locals h (fun y => if y = x then some v else kstB (fun z => if stored.contains z then u z else m₀ z) (ps c) y) → News h₀ env.locals h (Led c ++ own) →
      wpAny (model prog w) A (execs body env) (InvPostF h₀ env.locals I (KF Led ps x stored m₀ (P (i + 1))) own { s with heap := h, toks := tk } Q) E { s with heap := h, toks := tk })
    (done : ∀ (c : σ) (u : Str → Option Value) h tk, P kvs.length c → Fr h₀ env.locals h (fun y => if y = x then u y else kstB (fun z => if stored.contains z then u z else m₀ z) (ps c) y) → News h₀ env.locals h (Led c) → Q .next { s with heap := h, toks := tk }) :
    wpAny (model prog w) A (pyIter (.ref d)) (fun it s₂ => LoopAtV prog w A h₀ env x body Q E it s₂) E s := by
  refine iter_dictF (fun i m nx => KF Led ps x stored m₀ (P i) m nx) hh hm hd lo F N ⟨c₀, rfl, hk, fun _ _ _ _ => rfl, hp⟩ ?_ ?_
  · rintro I i k z v m₁ nx h tk own oI hx hkv hm hfp hn ⟨c, rfl, h1, h2, hp'⟩ F₁ N₁
    exact turn c I i k z v m₁ h tk own oI hx hkv hm hfp hn hp' (kst_fr h1 h2 F₁) N₁
  · rintro m₁ nx h tk ⟨c, rfl, h1, h2, hp'⟩ F₁ N₁
    exact done c m₁ h tk hp' (kst_frOut h1 h2 F₁) N₁
end
end Mine
namespace Mine
open PySem.Calls
section
variable {prog : Program} {w : World} {A : Around} {E : Value → Shared → Prop} {s : Shared} {env : Env} {h₀ : Heap} {L : Addr} {m : Str → Option Value} {K : Type} [DecidableEq K]
theorem key_st {knd : KeyKind prog w K} {d I : Addr} {od : Obj} {kvs : List (K × Value)} {ep : Nat} (ha : KdkAt knd od kvs ep) : ∀ i (h h' : Heap) (o : Obj) (nw : List (Addr × Obj)), (h.IsKeyIter I d i kvs.length ep ∧ h.DictAt knd d kvs ep) → h.get? I = some o → h'.get? I = some o → (∀ b o, h₀.get? b = some o → h'.get? b = some o) → News h₀ L h' nw → (d, od) ∈ nw → (h'.IsKeyIter I d i kvs.length ep ∧ h'.DictAt knd d kvs ep) :=
  fun i h h' o nw st e e' k N S => ⟨by obtain ⟨o', q, r⟩ := st.1; rw [e] at q; cases q; exact ⟨o, e', r⟩, ha.dictAt (N _ S).1⟩
theorem ListComp_dict {elt iter : Expr} {x : Str} {px : Pos} {scope : Scope} {cl : List (Str × Addr)} {pos : Pos} {Q : Value → Shared → Prop} (knd : KeyKind prog w K) (F₀ : Fr h₀ L s.heap m)
    (hclos : closureFor scope env = pure cl) (hcell : ∀ y ∈ scope.names, y.2 ≠ .cell) (hkind : scope.kind = .function)
    (hnames : ∀ y ∈ scope.names, y.2 = .local → scope.names.lookup y.1 = some .local) (hx : scope.names.lookup x = some .local)
    (h : wpAny (model prog w) A (eval iter env) (fun xv s₁ => Hold (∃ d od kvs news, xv = .ref d ∧ (d == sysModules) = false ∧ A.handled = none ∧ Fr h₀ L s₁.heap m ∧ News h₀ L s₁.heap news ∧ (d, od) ∈ news ∧ od.IsDictOf knd kvs ∧ kvs.length ≤ sizeLine ∧
      ∀ s₂ : Shared, (∃ h, s₂ = { s₁ with heap := h }) → LCg.CompRest prog w A h₀ L m env elt x scope cl s₂ (fun nw => (d, od) ∈ nw) (fun i v => ∃ k z, kvs[i]? = some (k, z) ∧ knd.is k v = true) (LCg.FinE h₀ L m s₂ Q) kvs.length 0 [] news)) E s)
    (hs : ∀ x, foldedSetIterable iter env x = pure x := by intro _; rfl) :
    wpAny (model prog w) A (eval (.ListComp elt [⟨.Name x px, iter, [], 0⟩] scope pos) env) Q E s := by
  rw [eval_ListComp]
  refine wpAny_comprehension_free (use := none) rfl hs hclos hkind hnames (wpAny_mono h (fun xv s₁ h₁ => ?_) fun _ _ e => e)
  obtain ⟨d, od, kvs, news, rfl, lo, hh, F, N, hm, hd, hsz, R⟩ := h₁.out
  obtain ⟨ep, ha⟩ := KdkAt.of hd
  have hat := ha.dictAt (N _ hm).1
  have hlt : d < s₁.heap.objs.size := hat.lt_size
  refine wpAny_pyIter_dict lo hat ?_
  refine LCg.block_U (Walks.dictKeys (knd := knd) hh s₁.heap.objs.size d (Nat.ne_of_lt hlt) kvs ep) hsz (fun i h st => by obtain ⟨o, e, _⟩ := st.1; exact ⟨o, e⟩) (key_st ha) hcell hkind hx ⟨⟨_, Heap.get?_push_size _ rfl, rfl, rfl⟩, hat.push _⟩ (fun b hb => ?_)
    (F.push _) (fun p hp => ⟨Heap.get?_push_of_some _ (N p hp).1, (N p hp).2⟩) (Nat.ne_of_lt F.ns.lt) (next_is_new F) (fun p hp => Nat.ne_of_lt (Heap.lt_size (N p hp).1)) hm (R _ ⟨_, rfl⟩) ?_
  · show b < (s₁.heap.push _).objs.size
    rw [Heap.size_push]
    rcases List.mem_cons.mp hb with rfl | hb
    · exact Nat.lt_succ_self _
    · rw [List.mem_singleton.mp hb]; exact Nat.lt_succ_of_lt hlt
  · intro D C h tk m' ys news' F' N' o1 hn hC₀ hD₀ hCL hDL hCD offC fin
    refine ⟨m', hn, fun h'' hs'' => fin D h'' tk (F'.change hs'' hCL hC₀) (fun p hp => ?_) o1⟩
    refine ⟨hs''.extBut _ _ ?_ (N' p hp).1, (N' p hp).2⟩
    rcases List.mem_cons.mp hp with rfl | hp
    · exact Ne.symm hCD
    · exact offC p hp
theorem kcf_any {elt : Expr} {x : Str} {scope : Scope} {cl : List (Str × Addr)} {S : List (Addr × Obj) → Prop} {P : Nat → Value → Prop} {Fin : List Value → List (Addr × Obj) → Prop} {news : List (Addr × Obj)} {rs : List Int} {n : Nat} (hrs : rs.length = n)
    (turn : ∀ i v I oI C oC D m₂ ys h tk (E' : Value → Shared → Prop), i < n → P i v → LCg.NsObj oC m₂ → m₂ x = some v → Fr h₀ L h m → News h₀ L h ((I, oI) :: (C, oC) :: (D, LCg.lst ys) :: news) → LCg.Off3 I C D news → ((@Ne Nat I C) ∧ (@Ne Nat I D) ∧ (@Ne Nat C D)) →
      wpAny (model prog w) A (eval elt (compEnvC scope cl C env)) (LCg.CompEnd h₀ L m { s with heap := h, toks := tk } I oI C oC D (LCg.lst ys) S (fun y news' => KCfEl news (rs.getD i 0) y news')) E' { s with heap := h, toks := tk })
    (fin : ∀ ys, IntsAre ys rs → Fin ys news) : LCg.CompRest prog w A h₀ L m env elt x scope cl s S P Fin n 0 [] news := by
  have key : ∀ (j i : Nat) (ys : List Value), i + j = n → IntsAre ys (rs.take i) → LCg.CompRest prog w A h₀ L m env elt x scope cl s S P Fin j i ys news := by
    intro j
    induction j with
    | zero =>
      intro i ys hi hy
      have e : i = rs.length := by omega
      subst e
      rw [List.take_length] at hy
      exact LCg.CompRest.zero (fin ys hy)
    | succ j ih =>
      intro i ys hi hy
      refine LCg.CompRest.succ ?_
      intro v I oI C oC D m₂ h tk E' hv hC hx F N off ne
      refine wpAny_mono (turn i v I oI C oC D m₂ ys h tk E' (by omega) hv hC hx F N off ne) (fun y s₂ hq => ?_) fun _ _ e => e
      obtain ⟨h', tk', nw, e, F', N', off', hS, hn, t', hy'⟩ := hq
      rw [hn] at N' off' hS
      refine ⟨h', tk', news, e, F', N', off', hS, ?_⟩
      rw [hy']
      refine ih (i + 1) _ (by omega) ?_
      have hil : i < rs.length := by omega
      have e2 : rs.getD i 0 = rs[i] := by simp [hil]
      have e3 : rs.take (i + 1) = rs.take i ++ [rs.getD i 0] := by rw [List.take_add_one, List.getElem?_eq_getElem hil, e2]; rfl
      rw [e3]
      exact IntsAre.append hy (.cons _ t' .nil)
  exact key n 0 [] (by omega) (by simp only [List.take_zero]; exact .nil)
end
end Mine
namespace Mine
open PySem.Calls
section
variable {prog : Program} {w : World} {A : Around} {E : Value → Shared → Prop} {s : Shared}
theorem getAttrOpt_miss_list {a : Addr} {o : Obj} {xs : Array Value} {k : Nat} {name : Str} {Q : Option Value → Shared → Prop}
    (hx : s.heap.get? a = some o) (hc : o.cls = .type "list") (hdat : o.data = .seq xs k) (hd : o.dict = none) (hmiss : typeLookup (.type "list") name = pure none) (hname : (["__module__", "__name__", "__qualname__", "__doc__", "__annotations__"] : List Str).contains name = false) (hA : A.handled = none)
    (h : ∀ h' tk e, Heap.NewExcOf s.heap h' e "AttributeError" → Q none { s with heap := h', toks := tk }) (hsz : name.length + 100 ≤ sizeLine := by size_fits) :
    wpAny (model prog w) A (getAttr? (.ref a) name) Q E s := by
  obtain ⟨c, dct, dat, sl⟩ := o
  simp only at hc hdat hd
  subst hc hdat hd
  obtain ⟨hp, g, d, tk, os⟩ := s
  have hT : ∀ tk', (⟨hp, g, d, tk', os⟩ : Shared).TypeIs (.ref a) "list" := fun _ => ⟨_, hx, rfl⟩
  have f1 := sub_AttributeError
  have f3 := F.slot_list_getattribute.lookup
  have f4 := F.slot_list_getattribute.bind (.ref a)
  have f5 := am_list_getattr_none
  unfold getAttr? getAttrBy? getAttrBy
  repeat (any_goals (first | assumption | exact hT _ | ((with_reducible show wpAny _ _ (call (Value.builtin "list.__getattribute__") _ _) _ _ _); refine call_meets F.slot_list_getattribute (hT _) am_entry_list_getattribute (F.args_list_getattribute_2 _ _) (meets_getattribute_miss_list a xs k sl name _ hmiss hname hsz) ⟨hx, hA, fun h' tk' e hx' => ?_⟩) | wp_step))
  obtain ⟨t', u', he⟩ := hx'.there
  show wpAny _ _ (getattributeRaised _ _ _ _ _ _ _) _ _ _
  unfold getattributeRaised
  repeat (any_goals (first | assumption | wp_step))
  exact h _ _ _ hx'.of
theorem dl_entry : entryFor table "dict.update.loop" = some Builtin.«dict.update.loop» := entryFor_of_tree (by kernel_rfl)
theorem dl_plain : plainId "dict.update.loop" = true := by decide +kernel
theorem dl_keys : typeLookup (.type "list") "keys" = pure none := by rw [typeLookup_type, builtinLookup_eq_fast]; kernel_rfl
def PairsAt (h : Heap) (vs : List Value) (ns : List Int) : Prop := ∀ i v, vs[i]? = some v → ∃ T t, v = .ref T ∧ h.IsTuple T #[.int (ns.getD i 0) t, .bool true]
theorem stored_keys_new {kvs : List (Int × Value)} {k : Int} {v : Value} (h : k ∉ kvs.map (·.1)) : (stored kvs k v).map (·.1) = kvs.map (·.1) ++ [k] := by
  unfold stored
  rw [if_neg]
  · rw [List.map_append]; rfl
  · intro e
    obtain ⟨q, hq, e⟩ := List.any_eq_true.mp e
    exact h (List.mem_map.mpr ⟨q, hq, of_decide_eq_true e⟩)
theorem dict_loop {R : Result → Shared → Prop} {H : Heap} {I S l : Addr} {vs : List Value} {ns : List Int} (hh : A.in1.handled = none) (hlI : l ≠ I) (hIS : I ≠ S) (hlS : l ≠ S) (hT : PairsAt H vs ns) (hTI : H.get? I = none) (hTS : H.get? S = none) (hl : H.IsList l vs.toArray)
    (hlen : vs.length ≤ 1000) (hnl : ns.length = vs.length) (hnd : ns.Nodup) :
    ∀ (k i : Nat) (s : Shared) (kvs : List (Int × Value)), vs.length - i = k → i ≤ vs.length → s.heap.IsListIter I l i → (∀ b o, H.get? b = some o → s.heap.get? b = some o) → s.heap.DictOf (intKind prog w) S kvs → kvs.map (·.1) = ns.take i →
      (∀ h' tk kvs', h'.DictOf (intKind prog w) S kvs' → kvs'.map (·.1) = ns → (∀ b o, H.get? b = some o → h'.get? b = some o) → R (.ok (.ret .none)) { s with heap := h', toks := tk }) →
      codeAny (model prog w) A (.builtin "dict.update.loop" ⟨[.ref S, .ref I, .int (i : Int) 0, .none], []⟩) R s := by
  have W := Walks.list (prog := prog) (w := w) hh I l hlI vs.toArray
  intro k
  induction k with
  | zero =>
    intro i s kvs hk hi hst hkp hd hkv hR
    have hin : i = vs.length := by omega
    subst hin
    refine codeAny_builtin dl_entry ?_
    rw [Around.under_plainId dl_plain _]
    show wpAny _ A.in1 (pyNext (.ref I) >>= _) _ _ s
    refine wpAny_bind (W.done s _ _ ⟨by simpa using hst, hl.at fun o e => hkp _ _ e⟩ fun h' tk hm => ?_)
    show wpAny _ A.in1 (Builtin.Dict.addKeywords S [] >>= fun _ => ret Value.none) _ _ _
    refine wpAny_bind (wpAny_pure (wpAny_pure ?_))
    refine hR h' tk kvs ?_ (by rw [hkv, ← hnl, List.take_length]) (fun b o e => hm b o (by intro hb; rw [List.mem_singleton.mp hb, hTI] at e; cases e) (hkp b o e))
    obtain ⟨o, es, ep, ho, rest⟩ := hd
    exact ⟨o, es, ep, hm S o (by intro hb; exact hIS (List.mem_singleton.mp hb).symm) ho, rest⟩
  | succ k ih =>
    intro i s kvs hk hi hst hkp hd hkv hR
    have hlt : i < vs.length := by omega
    refine codeAny_builtin dl_entry ?_
    rw [Around.under_plainId dl_plain _]
    show wpAny _ A.in1 (pyNext (.ref I) >>= _) _ _ s
    refine wpAny_bind (W.item i s _ _ (by simpa using hlt) ⟨hst, hl.at fun o e => hkp _ _ e⟩ fun v h2 tk2 hP hst2 hm => ?_)
    obtain ⟨T, t, rfl, hTu⟩ := hT i v (by simpa using hP)
    have hkp2 : ∀ b o, H.get? b = some o → h2.get? b = some o := fun b o e => hm b o (by intro hb; rw [List.mem_singleton.mp hb, hTI] at e; cases e) (hkp b o e)
    have hTu2 : h2.IsTuple T #[.int (ns.getD i 0) t, .bool true] := hTu.at fun o e => hkp2 _ _ e
    have hd2 : h2.DictOf (intKind prog w) S kvs := by
      obtain ⟨o, es, ep, ho, rest⟩ := hd
      exact ⟨o, es, ep, hm S o (by intro hb; exact hIS (List.mem_singleton.mp hb).symm) ho, rest⟩
    obtain ⟨oT, hoT, hcT, nT, hdT⟩ := id hTu2
    refine wpAny_bind (wpAny_holding ?_)
    refine wpAny_bind (wpAny_tryCatch ?_)
    unfold Builtin.Dict.pairItems
    refine wpAny_bind (wpAny_typeOf (T := "tuple") (s := { s with heap := h2, toks := tk2 }) hTu2.typeIs ?_)
    rw [if_pos (by decide)]
    refine wpAny_bind (wpAny_seqItems (s := { s with heap := h2, toks := tk2 }) hoT hdT ?_)
    refine wpAny_pure ?_
    show wpAny _ A.in1 (holding [Value.int (ns.getD i 0) t, Value.bool true] (dictSet S (.int (ns.getD i 0) t) (.bool true))) _ _ _
    refine wpAny_holding ?_
    unfold dictSet
    refine wpAny_holding ?_
    refine wpAny_bind ((intKind prog w).pyHash (k := ns.getD i 0) (intKind_is _ _ _ _) ?_)
    have hkl : kvs.length ≤ vs.length := by
      have := congrArg List.length hkv
      rw [List.length_map, List.length_take] at this; omega
    refine wpAny_dictSetHashed_pairs (knd := intKind prog w) (s := { s with heap := h2, toks := tk2 + 1 }) (intKind_is _ _ _ _) hd2 (fun h3 hd3 hs3 => ?_) (by rw [sizeLine_eq]; omega)
    have hin : i < ns.length := by omega
    have hnew : ns.getD i 0 ∉ kvs.map (·.1) := by
      rw [hkv]
      intro hm9
      obtain ⟨j, hj, e⟩ := List.mem_iff_getElem.mp hm9
      rw [List.length_take] at hj
      rw [List.getElem_take] at e
      have e2 : ns.getD i 0 = ns[i] := by simp [hin]
      rw [e2] at e
      have hlt9 : j < i := by omega
      exact List.pairwise_iff_getElem.mp hnd j i (by omega) hin hlt9 e
    refine wpAny_pure ⟨plainId_quiet dl_plain _, ?_⟩
    refine ih (i + 1) _ (stored kvs (ns.getD i 0) (.bool true)) (by omega) hlt ?_ ?_ hd3 ?_ ?_
    · exact hst2.1.at fun o e => hs3.extBut I o hIS e
    · intro b o e
      exact hs3.extBut b o (fun h => by rw [h, hTS] at e; cases e) (hkp2 b o e)
    · rw [stored_keys_new hnew, hkv, List.take_add_one]
      simp [hin]
    · exact hR
theorem call_dict_pairs {h₀ : Heap} {L l : Addr} {m : Str → Option Value} {news : List (Addr × Obj)} {vs : List Value} {ns : List Int} {kk : Nat} {Q : Value → Shared → Prop} (hh : A.handled = none) (F : Fr h₀ L s.heap m) (N : News h₀ L s.heap news) (hbig : sysModules < h₀.objs.size)
    (hm : (l, ({ cls := .type "list", data := .seq vs.toArray kk } : Obj)) ∈ news) (hT : PairsAt s.heap vs ns) (hlen : vs.length ≤ 1000) (hnl : ns.length = vs.length) (hnd : ns.Nodup)
    (h : ∀ od kvs h' tk, Fr h₀ L h' m → News h₀ L h' ((s.heap.objs.size, od) :: news) → od.IsDictOf (intKind prog w) kvs → kvs.length = ns.length → (s.heap.objs.size == sysModules) = false → Q (.ref s.heap.objs.size) { s with heap := h', toks := tk }) :
    wpAny (model prog w) A (call (.type "dict") [.ref l]) Q E s := by
  refine callType_codes (Q₁ := fun obj s₁ => obj = .ref s.heap.objs.size ∧ s₁ = { s with heap := s.heap.push { cls := .type "dict", data := .dict #[] } }) PySem.F.kt_called_dict (PySem.F.kt_typeCall_dict_1 _) PySem.F.entry_dict_init (kt_code_dict_new _ ⟨rfl, rfl⟩) ?_
  rintro obj s₁ ⟨rfl, rfl⟩
  have hnew : (s.heap.push { cls := .type "dict", data := .dict #[] }).DictOf (intKind prog w) s.heap.objs.size [] := Heap.DictOf.new s.heap
  have hlo := (N _ hm).1
  have hls : s.heap.IsList l vs.toArray := ⟨_, hlo, rfl, kk, rfl⟩
  have hls' := hls.push (o := { cls := .type "dict", data := .dict #[] })
  refine ⟨hnew.typeIs, PySem.F.args_dict_init_2 _ _, ?_⟩
  unfold Builtin.«dict.__init__»
  refine wpAny_bind ?_
  unfold Builtin.Dict.selfAndRest
  refine wpAny_bind (wpAny_notOrdered_dict hnew.typeIs ?_)
  show wpAny _ _ (pure (s.heap.objs.size, [Value.ref l])) _ _ _
  refine wpAny_pure ?_
  show wpAny _ _ (Builtin.Dict.updateFrom "dict.__init__" s.heap.objs.size (.ref l) [] .none) _ _ _
  unfold Builtin.Dict.updateFrom
  refine wpAny_bind (wpAny_typeOf (T := "list") (s := { s with heap := s.heap.push { cls := .type "dict", data := .dict #[] } }) hls'.typeIs ?_)
  rw [if_pos (by decide)]
  refine wpAny_bind (getAttrOpt_miss_list (s := { s with heap := s.heap.push { cls := .type "dict", data := .dict #[] } }) (o := { cls := .type "list", data := .seq vs.toArray kk }) (Heap.get?_push_of_some _ hlo) rfl rfl rfl dl_keys (by decide) (by simpa using hh) (fun h2 tk2 e hx => ?_))
  simp only [Option.isNone_none, if_true]
  refine wpAny_bind (wpAny_rule ?_)
  have hk2 : ∀ b o, s.heap.get? b = some o → h2.get? b = some o := fun b o e => hx.keeps b o (Heap.get?_push_of_some _ e)
  have hS2 : h2.get? s.heap.objs.size = some { cls := .type "dict", data := .dict #[] } := hx.keeps _ _ (Heap.get?_push_size _ rfl)
  have hlt2 : s.heap.objs.size < h2.objs.size := Heap.lt_size hS2
  have hl2 : h2.IsList l vs.toArray := ⟨_, hk2 _ _ hlo, rfl, kk, rfl⟩
  have hlS : l < s.heap.objs.size := Heap.lt_size hlo
  refine wpAny_bind (wpAny_pyIter_list (s := { s with heap := h2, toks := tk2 }) hl2 ?_)
  refine wpAny_pure ⟨plainId_quiet dl_plain _, ?_⟩
  refine dict_loop (H := s.heap) (I := h2.objs.size) (S := s.heap.objs.size) (l := l) (vs := vs) (ns := ns) (by simpa using hh) (Nat.ne_of_lt (Nat.lt_trans hlS hlt2)) (Nat.ne_of_gt hlt2) (Nat.ne_of_lt hlS) hT (Heap.get?_none_of_le (Nat.le_of_lt hlt2)) (Heap.get?_none_of_le (Nat.le_refl _)) hls hlen hnl hnd (vs.length - 0) 0 _ [] rfl (Nat.zero_le _) ?_ ?_ ?_ rfl ?_
  · exact ⟨_, Heap.get?_push_size _ rfl, rfl, rfl⟩
  · intro b o e; exact Heap.get?_push_of_some _ (hk2 b o e)
  · obtain ⟨o, es, ep, ho, rest⟩ := hnew
    exact ⟨o, es, ep, Heap.get?_push_of_some _ (hx.keeps _ _ ho), rest⟩
  · intro h' tk kvs' hd' hkv' hkp'
    obtain ⟨o, es, ep, ho, rest⟩ := hd'
    refine ⟨rfl, h o kvs' h' tk (F.keeps hkp') ?_ ⟨es, ep, rest⟩ ?_ (F.notModules hbig)⟩
    · intro p hp
      rcases List.mem_cons.mp hp with rfl | hp
      · exact ⟨ho, Nat.ne_of_gt F.ns.lt, next_is_new F⟩
      · exact ⟨hkp' _ _ (N p hp).1, (N p hp).2⟩
    · rw [← hkv', List.length_map]
end
end Mine
namespace Mine
open PySem.Calls
abbrev tupK (k : Int) (t : Tok) (n : Nat) : Obj := { cls := .type "tuple", data := .seq #[.int k t, .bool true] n }
def PairEl (nw : List (Addr × Obj)) (k : Int) (y : Value) (nw' : List (Addr × Obj)) : Prop := ∃ T t n, y = .ref T ∧ nw' = (T, tupK k t n) :: nw
def PairsIn (nw : List (Addr × Obj)) (ys : List Value) (ns : List Int) : Prop := ys.length = ns.length ∧ ∀ i y, ys[i]? = some y → ∃ T t n, y = .ref T ∧ (T, tupK (ns.getD i 0) t n) ∈ nw
theorem PairsIn.at {h₀ h : Heap} {L : Addr} {nw : List (Addr × Obj)} {ys : List Value} {ns : List Int} (p : PairsIn nw ys ns) (N : News h₀ L h nw) : PairsAt h ys ns := fun i v hv => by
  obtain ⟨T, t, n, e, hm⟩ := p.2 i v hv
  exact ⟨T, t, e, _, (N _ hm).1, rfl, n, rfl⟩
section
variable {prog : Program} {w : World} {A : Around} {h₀ : Heap} {L : Addr} {m : Str → Option Value} {env : Env} {elt : Expr} {x : Str} {scope : Scope} {cl : List (Str × Addr)} {s : Shared} {Fin : List Value → List (Addr × Obj) → Prop} {news : List (Addr × Obj)} {S : List (Addr × Obj) → Prop}
theorem kcf_pairs {vs : List Value} {ns : List Int} (hi : IntsAre vs ns)
    (turn : ∀ k t I oI C oC D m₂ ys nw h tk (E' : Value → Shared → Prop), k ∈ ns → LCg.NsObj oC m₂ → m₂ x = some (.int k t) → Fr h₀ L h m → News h₀ L h ((I, oI) :: (C, oC) :: (D, LCg.lst ys) :: nw) → LCg.Off3 I C D nw → ((@Ne Nat I C) ∧ (@Ne Nat I D) ∧ (@Ne Nat C D)) → (∀ p ∈ news, p ∈ nw) →
      wpAny (model prog w) A (eval elt (compEnvC scope cl C env)) (LCg.CompEnd h₀ L m { s with heap := h, toks := tk } I oI C oC D (LCg.lst ys) S (fun y nw' => PairEl nw k y nw')) E' { s with heap := h, toks := tk })
    (fin : ∀ ys nw, (∀ p ∈ news, p ∈ nw) → PairsIn nw ys ns → Fin ys nw) : LCg.CompRest prog w A h₀ L m env elt x scope cl s S (fun i v => vs.toArray[i]? = some v) Fin vs.toArray.size 0 [] news := by
  have hvl := hi.length
  have key : ∀ (j i : Nat) (ys : List Value) (nw : List (Addr × Obj)), i + j = vs.toArray.size → (∀ p ∈ news, p ∈ nw) → PairsIn nw ys (ns.take i) → LCg.CompRest prog w A h₀ L m env elt x scope cl s S (fun i v => vs.toArray[i]? = some v) Fin j i ys nw := by
    intro j
    induction j with
    | zero =>
      intro i ys nw hij hsub hp
      have e : i = ns.length := by rw [← hvl]; simpa using hij
      subst e
      rw [List.take_length] at hp
      exact LCg.CompRest.zero (fin ys nw hsub hp)
    | succ j ih =>
      intro i ys nw hij hsub hp
      refine LCg.CompRest.succ ?_
      intro v I oI C oC D m₂ h tk E' hv hC hx F N off ne
      obtain ⟨k, t, e, hk⟩ := IntsAre.at hi i v (by simpa using hv)
      rw [e] at hx
      refine wpAny_mono (turn k t I oI C oC D m₂ ys nw h tk E' (List.mem_of_getElem? hk) hC hx F N off ne hsub) (fun y s₂ hq => ?_) fun _ _ e => e
      obtain ⟨h', tk', nw', e', F', N', off', hS', T, t', n', rfl, rfl⟩ := hq
      refine ⟨h', tk', _, e', F', N', off', hS', ?_⟩
      refine ih (i + 1) _ _ (by omega) (fun p hp => .tail _ (hsub p hp)) ?_
      have hin : i < ns.length := (List.getElem?_eq_some_iff.mp hk).1
      have htk : ns.take (i + 1) = ns.take i ++ [k] := by rw [List.take_add_one, hk]; rfl
      have hyl : ys.length = i := by have := hp.1; rw [List.length_take] at this; omega
      refine ⟨by rw [htk, List.length_append, List.length_append, hp.1]; rfl, fun a y hy => ?_⟩
      rcases Nat.lt_or_ge a ys.length with ha | ha
      · rw [List.getElem?_append_left ha] at hy
        obtain ⟨T2, t2, n2, e2, hm2⟩ := hp.2 a y hy
        refine ⟨T2, t2, n2, e2, .tail _ ?_⟩
        have : (ns.take (i + 1)).getD a 0 = (ns.take i).getD a 0 := by
          rw [htk, List.getD_eq_getElem?_getD, List.getD_eq_getElem?_getD, List.getElem?_append_left (by rw [List.length_take]; have := hp.1; rw [List.length_take] at this; omega)]
        rw [this]; exact hm2
      · rw [List.getElem?_append_right ha] at hy
        have ha0 : a = i := by
          have := (List.getElem?_eq_some_iff.mp hy).1
          simp at this; omega
        subst ha0
        have hy' : y = .ref T := by
          rw [hyl] at hy; simp at hy; exact hy.symm
        refine ⟨T, t', n', hy', ?_⟩
        have : (ns.take (a + 1)).getD a 0 = k := by
          rw [htk]
          have hl : (ns.take a).length = a := by rw [List.length_take]; omega
          rw [List.getD_eq_getElem?_getD, List.getElem?_append_right (by omega), hl]; simp
        rw [this]; exact .head _
  exact key _ 0 [] news (by omega) (fun _ h => h) ⟨rfl, fun i y h => by simp at h⟩
end
theorem foldl_keep {α β : Type} (a : α) : ∀ l : List β, l.foldl (fun l _ => l) a = a
  | [] => rfl
  | _ :: r => foldl_keep a r
end Mine
namespace Mine
/-! plain law: sums of pieces -/
def ib (l : List UInt8) : List Int := l.map fun c => ((c.toNat : Nat) : Int)
theorem ib_inj : ∀ {l l' : List UInt8}, ib l = ib l' → l = l'
  | [], [], _ => rfl
  | [], _ :: _, h => by simp [ib] at h
  | _ :: _, [], h => by simp [ib] at h
  | a :: r, b :: t, h => by
    simp only [ib, List.map_cons, List.cons.injEq] at h
    have e : a.toNat = b.toNat := by have := h.1; omega
    rw [UInt8.toNat_inj.mp e, ib_inj h.2]
def small (k : Int) : Prop := 0 ≤ k ∧ k < 64
theorem fm {x : Int} (h0 : 0 ≤ x) (h1 : x < 2147483647) : Int.fmod x 2147483647 = x := by
  rw [Int.fmod_eq_emod_of_nonneg _ (by decide)]; exact Int.emod_eq_of_lt h0 h1
def bnd : Nat → Int
  | 0 => 2147483646
  | 1 => 4443712
  | 2 => 16896
  | 3 => 64
  | _ => 0
theorem bnd_step : ∀ {r : Nat}, r + 1 ≤ 4 → bnd (r + 1) ≤ 8000000 ∧ bnd (r + 1) * 263 + 64 ≤ bnd r
  | 0, _ => by decide
  | 1, _ => by decide
  | 2, _ => by decide
  | 3, _ => by decide
  | r + 4, h => absurd h (by omega)
theorem bnd_nn (r : Nat) : 0 ≤ bnd r := by unfold bnd; split <;> decide
abbrev st (s k : Int) : Int := Int.fmod (s * 263 + k + 1) 2147483647
theorem st_eq {s k n : Int} (hs : 0 ≤ s ∧ s ≤ n) (hn : n ≤ 8000000) (hk : small k) : st s k = s * 263 + k + 1 := by
  unfold small at hk; exact fm (by omega) (by omega)
theorem st_lim {s k n : Int} (hs : 0 ≤ s ∧ s ≤ n) (hk : small k) : 0 ≤ s * 263 + k + 1 ∧ s * 263 + k + 1 ≤ n * 263 + 64 := by
  unfold small at hk; omega
theorem st_inj {s s' k k' : Int} (hk : small k) (hk' : small k') (h : s * 263 + k + 1 = s' * 263 + k' + 1) : s = s' ∧ k = k' := by
  unfold small at hk hk'; omega
def pol (s : Int) (ks : List Int) : Int := ks.foldl (fun f o => f * 263 + o + 1) s
theorem fold_pol : ∀ {ks : List Int} {s : Int}, (∀ k ∈ ks, small k) → ks.length ≤ 4 → 0 ≤ s ∧ s ≤ bnd ks.length → ks.foldl st s = pol s ks
  | [], _, _, _, _ => rfl
  | a :: r, s, hk, h4, hs => by
    obtain ⟨b1, b2⟩ := bnd_step h4
    have l := st_lim hs (hk a (.head _))
    show r.foldl st (st s a) = pol (s * 263 + a + 1) r
    rw [st_eq hs b1 (hk a (.head _))]
    exact fold_pol (fun k h => hk k (.tail _ h)) (Nat.le_of_succ_le h4) ⟨l.1, Int.le_trans l.2 b2⟩
theorem ofsum_pol {ks : List Int} (hk : ∀ k ∈ ks, small k) (h4 : ks.length ≤ 4) : ofsum ks = pol 0 ks := fold_pol hk h4 ⟨Int.le_refl 0, bnd_nn _⟩
theorem pol_inj : ∀ {ks ls : List Int} {s s' : Int}, (∀ k ∈ ks, small k) → (∀ k ∈ ls, small k) → ks.length = ls.length → pol s ks = pol s' ls → s = s' ∧ ks = ls
  | [], [], _, _, _, _, _, h => ⟨h, rfl⟩
  | a :: r, a' :: r', s, s', hk, hl, e, h => by
    obtain ⟨h1, h2⟩ := pol_inj (fun k h => hk k (.tail _ h)) (fun k h => hl k (.tail _ h)) (Nat.succ.inj e) (show pol (s * 263 + a + 1) r = pol (s' * 263 + a' + 1) r' from h)
    obtain ⟨h3, h4⟩ := st_inj (hk a (.head _)) (hl a' (.head _)) h1
    exact ⟨h3, by rw [h4, h2]⟩
theorem ofsum_inj {ks ls : List Int} (hk : ∀ k ∈ ks, small k) (hl : ∀ k ∈ ls, small k) (h4 : ks.length ≤ 4) (hlen : ks.length = ls.length) (h : ofsum ks = ofsum ls) : ks = ls := by
  rw [ofsum_pol hk h4, ofsum_pol hl (hlen ▸ h4)] at h
  exact (pol_inj hk hl hlen h).2
/-! the two tables agree -/
section
variable {l : List UInt8} {b : Int}
def KeyOk (l : List UInt8) (b : Int) (B : List UInt8) : Prop := ∃ j : Nat, (j : Int) * b + b ≤ l.length ∧ B = pc l b ((j : Int) * b)
theorem win_len {α : Type} {l : List α} {a b : Int} (h0 : 0 ≤ a) (hb : 0 ≤ b) (h : a + b ≤ l.length) : (((l.drop a.toNat).take b.toNat).length : Int) = b := by
  obtain ⟨a, rfl⟩ := Int.eq_ofNat_of_zero_le h0
  obtain ⟨b, rfl⟩ := Int.eq_ofNat_of_zero_le hb
  rw [List.length_take, List.length_drop]
  exact congrArg Nat.cast (Nat.min_eq_left (Nat.le_sub_of_add_le' (Int.ofNat_le.mp h)))
theorem pc_len {j : Nat} (hb : 1 ≤ b) (h : (j : Int) * b + b ≤ l.length) : ((pc l b ((j : Int) * b)).length : Int) = b :=
  win_len (Int.mul_nonneg (Int.natCast_nonneg j) (Int.le_trans (by decide) hb)) (Int.le_trans (by decide) hb) h
theorem pc_sub {a : Int} : ∀ c ∈ pc l b a, c ∈ l := fun c hc => List.mem_of_mem_drop (List.mem_of_mem_take hc)
theorem key_inj (hb : 1 ≤ b ∧ b ≤ 4) (hs : ∀ k ∈ ib l, small k) {B B' : List UInt8} (h : KeyOk l b B) (h' : KeyOk l b B') (e : ofsum (ib B) = ofsum (ib B')) : B = B' := by
  obtain ⟨j, hj, rfl⟩ := h
  obtain ⟨j', hj', rfl⟩ := h'
  have e1 := pc_len hb.1 hj
  have e2 := pc_len hb.1 hj'
  have hsm : ∀ a : Int, ∀ k ∈ ib (pc l b a), small k := by
    intro a k hk
    obtain ⟨c, hc, rfl⟩ := List.mem_map.mp hk
    exact hs _ (List.mem_map.mpr ⟨c, pc_sub c hc, rfl⟩)
  refine ib_inj (ofsum_inj (hsm _) (hsm _) ?_ ?_ e)
  · unfold ib; rw [List.length_map]; exact Int.ofNat_le.mp (Int.le_trans (Int.le_of_eq e1) hb.2)
  · unfold ib; rw [List.length_map, List.length_map]; exact Int.ofNat.inj (e1.trans e2.symm)
theorem val_pc (l : List UInt8) (b : Int) (j : Nat) : val (ib l) b j = ofsum (ib (pc l b ((j : Int) * b))) := by
  unfold val pc ib; rw [List.map_take, List.map_drop]
theorem DD_ok {n : Nat} (hn : ∀ i < n, (i : Int) * b + b ≤ l.length) : ∀ i ≤ n, ∀ q ∈ DD l b i, KeyOk l b q.1
  | 0, _, q, hq => nomatch hq
  | i + 1, hi, q, hq => by
    have ih := DD_ok hn i (by omega)
    cases h : keptAt l b i
    · rw [show DD l b (i + 1) = DD l b i from by show (if keptAt l b i then _ else _) = _; rw [h]; rfl] at hq
      exact ih q hq
    · rw [show DD l b (i + 1) = ins (DD l b i) (pc l b ((i : Int) * b)) ((i : Int) * b) from by show (if keptAt l b i then _ else _) = _; rw [h]; rfl] at hq
      unfold ins at hq
      split at hq
      · obtain ⟨r, hr, rfl⟩ := List.mem_map.mp hq
        split
        · exact ih r hr
        · exact ih r hr
      · rcases List.mem_append.mp hq with hq | hq
        · exact ih q hq
        · rw [List.mem_singleton.mp hq]; exact ⟨i, hn i (by omega), rfl⟩
def keyed (q : List UInt8 × List Int) : Int × List Int := (ofsum (ib q.1), q.2)
theorem look_keyed {k : List UInt8} : ∀ {D : List (List UInt8 × List Int)}, (∀ q ∈ D, ofsum (ib q.1) = ofsum (ib k) → q.1 = k) → ((D.map keyed).find? fun q => q.1 = ofsum (ib k)) = (D.find? fun q => q.1 = k).map keyed
  | [], _ => rfl
  | q :: r, h => by
    rw [List.map_cons]
    by_cases e : q.1 = k
    · rw [List.find?_cons_of_pos (by simp [keyed, e]), List.find?_cons_of_pos (by simp [e])]; rfl
    · rw [List.find?_cons_of_neg (by exact fun h' => e (h q (.head _) (of_decide_eq_true h'))), List.find?_cons_of_neg (by simpa using e)]
      exact look_keyed fun q hq => h q (.tail _ hq)
theorem ins_keyed {k : List UInt8} {a : Int} {D : List (List UInt8 × List Int)} (h : ∀ q ∈ D, ofsum (ib q.1) = ofsum (ib k) → q.1 = k) : ins (D.map keyed) (ofsum (ib k)) a = (ins D k a).map keyed := by
  have hany : ((D.map keyed).any fun q => q.1 = ofsum (ib k)) = D.any fun q => q.1 = k := by
    rw [List.any_map, Bool.eq_iff_iff, List.any_eq_true, List.any_eq_true]
    constructor
    · rintro ⟨q, hq, e⟩; exact ⟨q, hq, by simpa using h q hq (of_decide_eq_true e)⟩
    · rintro ⟨q, hq, e⟩; exact ⟨q, hq, by simp only [decide_eq_true_eq] at e; simp [keyed, e]⟩
  have hlook : lookD (D.map keyed) (ofsum (ib k)) = lookD D k := by
    unfold lookD; rw [look_keyed h]
    cases D.find? fun q => q.1 = k <;> rfl
  unfold ins
  rw [hany, hlook]
  split
  · rw [List.map_map, List.map_map]
    refine List.map_congr_left fun q hq => ?_
    simp only [Function.comp]
    by_cases e : q.1 = k
    · rw [if_pos e, if_pos (by simp [keyed, e])]; rfl
    · rw [if_neg e, if_neg (show ¬ (keyed q).1 = ofsum (ib k) from fun h' => e (h q hq h'))]
  · rw [List.map_append]; rfl
theorem PP_DD (hb : 1 ≤ b ∧ b ≤ 4) (hs : ∀ k ∈ ib l, small k) {n : Nat} (hn : ∀ i < n, (i : Int) * b + b ≤ l.length) : ∀ i ≤ n, PP (ib l) b i = (DD l b i).map keyed
  | 0, _ => rfl
  | i + 1, hi => by
    have ih := PP_DD hb hs hn i (by omega)
    have hk : keptV (ib l) b i = keptAt l b i := by
      unfold keptV keptAt
      cases i with
      | zero => rfl
      | succ i =>
        have e0 : (i + 1 == 0) = false := rfl
        rw [e0, Bool.false_or, Bool.false_or, Nat.add_sub_cancel, val_pc, val_pc]
        by_cases e : pc l b ((i : Int) * b) = pc l b (((i + 1 : Nat) : Int) * b)
        · rw [e]; simp
        · have e' : ofsum (ib (pc l b ((i : Int) * b))) ≠ ofsum (ib (pc l b (((i + 1 : Nat) : Int) * b))) := fun h => e (key_inj hb hs ⟨i, hn i (by omega), rfl⟩ ⟨i + 1, hn (i + 1) (by omega), rfl⟩ h)
          rw [bne_iff_ne.mpr e, bne_iff_ne.mpr e']
    cases h : keptAt l b i
    · rw [PP_not (hk.trans h), ih]
      rw [show DD l b (i + 1) = DD l b i from by show (if keptAt l b i then _ else _) = _; rw [h]; rfl]
    · rw [PP_kept (hk.trans h), ih, val_pc]
      rw [show DD l b (i + 1) = ins (DD l b i) (pc l b ((i : Int) * b)) ((i : Int) * b) from by show (if keptAt l b i then _ else _) = _; rw [h]; rfl]
      refine ins_keyed fun q hq e => ?_
      exact key_inj hb hs (DD_ok hn i (by omega) q hq) ⟨i, hn i (by omega), rfl⟩ e
end
end Mine
namespace Mine
section
variable {l : List UInt8} {b : Int}
theorem lookD_mem {D : List (List UInt8 × List Int)} {k : List UInt8} : lookD D k = [] ∨ (k, lookD D k) ∈ D := by
  unfold lookD
  cases h : D.find? fun q => q.1 = k with
  | none => left; rfl
  | some q =>
    right
    have h1 := List.find?_some h
    have h2 := List.mem_of_find?_eq_some h
    simp only [decide_eq_true_eq] at h1
    subst h1
    exact h2
def PlOk (l : List UInt8) (b : Int) (i : Nat) (q : List UInt8 × List Int) : Prop := (∀ y ∈ q.2, ∃ j : Nat, j < i ∧ y = (j : Int) * b ∧ pc l b y = q.1) ∧ q.2.Pairwise (· < ·) ∧ q.2 ≠ []
theorem PlOk.mono {i j : Nat} (h : i ≤ j) {q : List UInt8 × List Int} (o : PlOk l b i q) : PlOk l b j q := ⟨fun y hy => let ⟨n, h1, h2⟩ := o.1 y hy; ⟨n, by omega, h2⟩, o.2⟩
theorem plok_snoc {i : Nat} {xs : List Int} (hb : 1 ≤ b) (h1 : ∀ y ∈ xs, ∃ j : Nat, j < i ∧ y = (j : Int) * b ∧ pc l b y = pc l b ((i : Int) * b)) (h2 : xs.Pairwise (· < ·)) : PlOk l b (i + 1) (pc l b ((i : Int) * b), xs ++ [(i : Int) * b]) := by
  refine ⟨fun y hy => ?_, ?_, by simp⟩
  · rcases List.mem_append.mp hy with hy | hy
    · obtain ⟨j, hj, h⟩ := h1 y hy; exact ⟨j, by omega, h⟩
    · rw [List.mem_singleton.mp hy]; exact ⟨i, by omega, rfl, rfl⟩
  · rw [List.pairwise_append]
    refine ⟨h2, List.pairwise_singleton .., fun y hy z hz => ?_⟩
    obtain ⟨j, hj, e, _⟩ := h1 y hy
    rw [List.mem_singleton.mp hz, e]
    exact Int.mul_lt_mul_of_pos_right (by omega) (by omega)
theorem DD_plok (hb : 1 ≤ b) : ∀ i, ∀ q ∈ DD l b i, PlOk l b i q
  | 0, q, hq => nomatch hq
  | i + 1, q, hq => by
    have ih := DD_plok hb i
    cases h : keptAt l b i
    · rw [show DD l b (i + 1) = DD l b i from by show (if keptAt l b i then _ else _) = _; rw [h]; rfl] at hq
      exact (ih q hq).mono (by omega)
    · rw [show DD l b (i + 1) = ins (DD l b i) (pc l b ((i : Int) * b)) ((i : Int) * b) from by show (if keptAt l b i then _ else _) = _; rw [h]; rfl] at hq
      unfold ins at hq
      split at hq
      · obtain ⟨r, hr, rfl⟩ := List.mem_map.mp hq
        split
        · rename_i e
          rw [e]
          rcases lookD_mem (D := DD l b i) (k := pc l b ((i : Int) * b)) with e0 | e0
          · rw [e0]; exact plok_snoc hb (fun y hy => nomatch hy) List.Pairwise.nil
          · have := ih _ e0; exact plok_snoc hb this.1 this.2.1
        · exact (ih r hr).mono (by omega)
      · rcases List.mem_append.mp hq with hq | hq
        · exact (ih q hq).mono (by omega)
        · rw [List.mem_singleton.mp hq]; exact plok_snoc (xs := []) hb (fun y hy => nomatch hy) List.Pairwise.nil
theorem sorted_eq {xs ys : List Int} (hp : xs.Perm ys) (hx : xs.Pairwise (· ≤ ·)) (hy : ys.Pairwise (· ≤ ·)) : xs = ys :=
  hp.eq_of_pairwise (fun a b _ _ h1 h2 => Int.le_antisymm h1 h2) hx hy
theorem lt_le {xs : List Int} (h : xs.Pairwise (· < ·)) : xs.Pairwise (· ≤ ·) := h.imp fun h => Int.le_of_lt h
theorem lt_nodup {xs : List Int} (h : xs.Pairwise (· < ·)) : xs.Nodup := h.imp fun h => Int.ne_of_lt h
/-! cap -/
variable {mo : Int} {xs : List Int}
theorem cap_head (hm : 1 ≤ mo) (hx : xs ≠ []) : (cap mo xs).getD 0 0 = xs.getD 0 0 ∧ cap mo xs ≠ [] := by
  unfold cap
  split
  · obtain ⟨k, hk⟩ : ∃ k, mo.toNat = k + 1 := ⟨mo.toNat - 1, by omega⟩
    rw [hk, List.range_succ_eq_map]
    simp
  · exact ⟨rfl, hx⟩
theorem cap_length (hm : 1 ≤ mo) : ((cap mo xs).length : Int) = min mo xs.length := by
  unfold cap
  split
  · rw [List.length_map, List.length_range]; omega
  · omega
theorem idx_lt {k mo n : Nat} (hk : k < mo) (hn : mo < n) : k * n / mo < n := by
  rw [Nat.div_lt_iff_lt_mul (by omega), Nat.mul_comm n mo]
  exact Nat.mul_lt_mul_of_pos_right hk (by omega)
theorem idx_mono {j k mo n : Nat} (hjk : j < k) (hm : 0 < mo) (hn : mo < n) : j * n / mo < k * n / mo := by
  have h1 : j * n + mo ≤ k * n := by
    have : (j + 1) * n ≤ k * n := Nat.mul_le_mul_right n hjk
    rw [Nat.add_mul] at this; omega
  have h2 : (j * n + mo) / mo ≤ k * n / mo := Nat.div_le_div_right h1
  rw [Nat.add_div_right _ hm] at h2
  omega
theorem cap_form (hm : 1 ≤ mo) (h : mo < (xs.length : Int)) : cap mo xs = (List.range mo.toNat).map fun (k : Nat) => xs.getD (k * xs.length / mo.toNat) 0 := by
  unfold cap
  rw [if_pos h]
  refine List.map_congr_left fun k _ => ?_
  have e : mo = (mo.toNat : Int) := by omega
  have : (Int.fdiv ((k : Int) * xs.length) mo).toNat = k * xs.length / mo.toNat := by
    obtain ⟨n, rfl⟩ : ∃ n : Nat, mo = n := ⟨mo.toNat, e⟩
    rw [Int.fdiv_eq_ediv_of_nonneg _ (by omega), ← Int.natCast_mul, ← Int.natCast_ediv]
    rfl
  rw [this]
theorem cap_sub (hm : 1 ≤ mo) : ∀ y ∈ cap mo xs, y ∈ xs := by
  by_cases h : mo < (xs.length : Int)
  · rw [cap_form hm h]
    intro y hy
    obtain ⟨k, hk, rfl⟩ := List.mem_map.mp hy
    have hk' := List.mem_range.mp hk
    have hi := idx_lt (k := k) (mo := mo.toNat) (n := xs.length) hk' (by omega)
    simp only [List.getD_eq_getElem?_getD, List.getElem?_eq_getElem hi, Option.getD_some]
    exact List.getElem_mem hi
  · rw [cap_small (by omega)]; exact fun y hy => hy
theorem cap_lt (hm : 1 ≤ mo) (hx : xs.Pairwise (· < ·)) : (cap mo xs).Pairwise (· < ·) := by
  by_cases h : mo < (xs.length : Int)
  · rw [cap_form hm h, List.pairwise_map]
    refine List.Pairwise.imp_of_mem ?_ (List.pairwise_lt_range (n := mo.toNat))
    intro j k hj hk hjk
    have hj' := idx_lt (List.mem_range.mp hj) (show mo.toNat < xs.length by omega)
    have hk' := idx_lt (List.mem_range.mp hk) (show mo.toNat < xs.length by omega)
    have hm' := idx_mono hjk (show 0 < mo.toNat by omega) (show mo.toNat < xs.length by omega)
    simp only [List.getD_eq_getElem?_getD, List.getElem?_eq_getElem hj', List.getElem?_eq_getElem hk', Option.getD_some]
    exact List.pairwise_iff_getElem.mp hx _ _ hj' hk' hm'
  · rw [cap_small (by omega)]; exact hx
end
end Mine
namespace Mine
section
variable {K : Type} [DecidableEq K]
theorem DL.at {tl : List (Addr × Obj)} : ∀ {kvs : List (K × Value)} {D : List (K × List Int)} {i : Nat} {k : K} {z : Value}, DL tl kvs D → kvs[i]? = some (k, z) → ∃ l vs n xs, z = .ref l ∧ (l, listOf vs.toArray n) ∈ tl ∧ IntsAre vs xs ∧ D[i]? = some (k, xs)
  | [], [], i, k, z, _, h => by simp at h
  | p :: r, q :: t, 0, k, z, ⟨⟨h1, l, vs, n, h2, h3, h4⟩, h5⟩, h => by
    simp only [List.getElem?_cons_zero, Option.some.injEq] at h
    subst h
    refine ⟨l, vs, n, q.2, h2, h3, h4, ?_⟩
    dsimp only at h1
    rw [h1]; rfl
  | p :: r, q :: t, i + 1, k, z, ⟨_, h5⟩, h => by
    simp only [List.getElem?_cons_succ] at h ⊢
    exact DL.at h5 h
  | [], _ :: _, _, _, _, h, _ => h.elim
  | _ :: _, [], _, _, _, h, _ => h.elim
theorem valueAt_at : ∀ {kvs : List (K × Value)} {i : Nat} {k : K} {z : Value}, (kvs.map (·.1)).Nodup → kvs[i]? = some (k, z) → valueAt kvs k = some z
  | [], i, k, z, _, h => by simp at h
  | p :: r, 0, k, z, _, h => by
    simp only [List.getElem?_cons_zero, Option.some.injEq] at h
    subst h
    unfold valueAt; rw [List.find?_cons_of_pos (by simp)]; rfl
  | p :: r, i + 1, k, z, hn, h => by
    simp only [List.getElem?_cons_succ] at h
    rw [List.map_cons, List.nodup_cons] at hn
    have hne : ¬ p.1 = k := fun e => hn.1 (by rw [e]; exact List.mem_map.mpr ⟨(k, z), List.mem_of_getElem? h, rfl⟩)
    unfold valueAt
    rw [List.find?_cons_of_neg (by simpa using hne)]
    exact valueAt_at hn.2 h
end
theorem DL.at2 {K : Type} [DecidableEq K] {tl : List (Addr × Obj)} {kvs : List (K × Value)} {D : List (K × List Int)} {i : Nat} {k : K} {xs : List Int} (h : DL tl kvs D) (hn : (kvs.map (·.1)).Nodup) (hi : D[i]? = some (k, xs)) : ∃ l vs n, valueAt kvs k = some (.ref l) ∧ (l, listOf vs.toArray n) ∈ tl ∧ IntsAre vs xs := by
  have hil : i < kvs.length := by rw [h.length]; exact (List.getElem?_eq_some_iff.mp hi).1
  obtain ⟨⟨k', z⟩, hz⟩ : ∃ p, kvs[i]? = some p := ⟨kvs[i], by simp [hil]⟩
  obtain ⟨l, vs, n, xs', rfl, h1, h2, h3⟩ := h.at hz
  rw [hi, Option.some.injEq, Prod.mk.injEq] at h3
  obtain ⟨rfl, rfl⟩ := h3
  exact ⟨l, vs, n, valueAt_at hn hz, h1, h2⟩
theorem DD_size {l : List UInt8} {b : Int} : ∀ i, (DD l b i).length ≤ i
  | 0 => Nat.le_refl 0
  | i + 1 => by
    have := DD_size (l := l) (b := b) i
    cases h : keptAt l b i
    · rw [show DD l b (i + 1) = DD l b i from by show (if keptAt l b i then _ else _) = _; rw [h]; rfl]; omega
    · rw [show DD l b (i + 1) = ins (DD l b i) (pc l b ((i : Int) * b)) ((i : Int) * b) from by show (if keptAt l b i then _ else _) = _; rw [h]; rfl]
      have h2 : (ins (DD l b i) (pc l b ((i : Int) * b)) ((i : Int) * b)).length ≤ (DD l b i).length + 1 := by unfold ins; split <;> simp
      omega
theorem bytes_shape {prog : Program} {w : World} {k : List UInt8} {v : Value} (h : (bytesKind prog w).is k v = true) : ∃ t, v = .bytes k.toArray t := by
  cases v with
  | bytes b t =>
    have h' : (b.toList == k) = true := h
    exact ⟨t, by rw [← eq_of_beq h']⟩
  | _ => cases h
/-- the sums of the due pieces, one for each key -/
def dsum (ks : List Int) (b : Int) (q : List UInt8 × List Int) : Int := ofsum ((ks.drop (q.2.getD 0 0).toNat).take b.toNat)
theorem dsum_key {l : List UInt8} {b : Int} {i : Nat} {q : List UInt8 × List Int} (h : PlOk l b i q) : dsum (ib l) b q = ofsum (ib q.1) := by
  obtain ⟨h1, _, h3⟩ := h
  obtain ⟨k, xs⟩ := q
  cases xs with
  | nil => exact absurd rfl h3
  | cons a r =>
    obtain ⟨j, _, _, e⟩ := h1 a (.head _)
    unfold dsum
    dsimp only at e ⊢
    rw [← e]
    unfold pc ib
    rw [List.map_take, List.map_drop]; rfl
theorem dsums {l : List UInt8} {b : Int} (hb : 1 ≤ b) (n : Nat) : (DD l b n).map (dsum (ib l) b) = (DD l b n).map fun q => ofsum (ib q.1) :=
  List.map_congr_left fun q hq => dsum_key (DD_plok hb n q hq)
theorem plok_first {l : List UInt8} {b : Int} {i : Nat} {q : List UInt8 × List Int} (hb : 1 ≤ b) (h : PlOk l b i q) (hi : ∀ j < i, (j : Int) * b + b ≤ l.length) : 0 ≤ q.2.getD 0 0 ∧ q.2.getD 0 0 + b ≤ l.length ∧ 0 < q.2.length := by
  obtain ⟨h1, _, h3⟩ := h
  obtain ⟨k, xs⟩ := q
  cases xs with
  | nil => exact absurd rfl h3
  | cons a r =>
    obtain ⟨j, hj, e, _⟩ := h1 a (.head _)
    have := hi j hj
    have h0 : 0 ≤ (j : Int) * b := Int.mul_nonneg (by omega) (by omega)
    refine ⟨?_, ?_, Nat.succ_pos _⟩
    · show 0 ≤ a; omega
    · show a + b ≤ _; omega
end Mine
namespace Mine
local macro_rules | `(tactic| walk_at "call builtin:sorted") => `(tactic| ((with_reducible show wpAny _ _ (call (Value.builtin "sorted") [Value.ref _]) _ _ _); refine Hold.out ?_))
local macro_rules | `(tactic| walk_at "subscriptTail") => `(tactic| ((with_reducible show wpAny _ _ (subscriptTail _ _ (Value.ref _) (Value.bytes _ _)) _ _ _); refine Hold.out ?_))
local macro_rules | `(tactic| walk_at "subscriptTail") => `(tactic| ((with_reducible show wpAny _ _ (subscriptTail _ _ (Value.ref _) (Value.int 0 _)) _ _ _); refine Hold.out ?_))
local macro_rules | `(tactic| k_all) => `(tactic| assumption)
local macro_rules | `(tactic| k_all) => `(tactic| exact tail_off (by assumption) (by omega) (by omega))
local macro_rules | `(tactic| walk_at $x:str) => if ["pyIter ref", "call ref", "call builtin:list", "call type:list", "call type:dict", "CompEnd", "CompSrcT", "CompSrc", "compareOp NotIn int ref", "KCfEl", "eval ListComp", "compareOp Eq ref ref", "compareOp NotEq ref ref"].contains x.getString then `(tactic| refine Hold.out ?_) else Lean.Macro.throwUnsupported
theorem kp_sub {c1 c2 c3 c4 a b c d : Addr × Obj} {l btl : List (Addr × Obj)} : ∀ p ∈ c1 :: c2 :: c3 :: c4 :: a :: b :: c :: d :: (btl ++ l), p ∈ c1 :: c2 :: c3 :: c4 :: a :: b :: c :: l ++ (d :: btl) := by
  intro p hp; simp only [List.mem_cons, List.mem_append, List.cons_append] at hp ⊢; grind
theorem kp_done {c1 c2 c3 c4 a b c d : Addr × Obj} {l l' btl : List (Addr × Obj)} : ∀ p ∈ a :: b :: c :: (l ++ l') ++ [], p ∈ c1 :: c2 :: c3 :: c4 :: a :: b :: c :: d :: (btl ++ (l ++ l')) := by
  intro p hp; simp only [List.mem_cons, List.mem_append, List.cons_append, List.append_nil] at hp ⊢; grind
theorem ce_sub {a b c t : Addr × Obj} {nw : List (Addr × Obj)} : ∀ p ∈ a :: b :: c :: t :: nw, p ∈ t :: a :: b :: c :: nw := by
  intro p hp; simp only [List.mem_cons] at hp ⊢; grind
theorem kp_led {c1 c2 c3 c4 a b c d : Addr × Obj} {l own : List (Addr × Obj)} : ∀ p ∈ c1 :: c2 :: c3 :: c4 :: a :: b :: c :: d :: l, p ∈ c1 :: c2 :: c3 :: c4 :: a :: b :: c :: d :: (l ++ own) := by
  intro p hp; simp only [List.mem_cons, List.mem_append] at hp ⊢; grind
theorem kp_own {c1 c2 c3 c4 a b c d : Addr × Obj} {l own : List (Addr × Obj)} : ∀ p ∈ own, p ∈ c1 :: c2 :: c3 :: c4 :: a :: b :: c :: d :: (l ++ own) := by
  intro p hp; simp only [List.mem_cons, List.mem_append] at hp ⊢; grind
theorem off_app {L : Nat} {l l' : List (Addr × Obj)} (h : Off L l) (h' : Off L l') : Off L (l ++ l') := fun p hp => (List.mem_append.mp hp).elim (h p) (h' p)
theorem ins_size {K : Type} [DecidableEq K] (D : List (K × List Int)) (k : K) (a : Int) : (ins D k a).length ≤ D.length + 1 := by
  unfold ins; split <;> simp
theorem PP_size {ks : List Int} {b : Int} : ∀ i, (PP ks b i).length ≤ i
  | 0 => Nat.le_refl 0
  | i + 1 => by
    have := PP_size (ks := ks) (b := b) i
    cases h : keptV ks b i
    · rw [PP_not h]; omega
    · rw [PP_kept h]; exact Nat.le_trans (ins_size _ _ _) (by omega)
set_option maxHeartbeats 8000000 in
theorem c_kept (w : World) (news ptl : List (Addr × Obj)) (pd x dx : Addr) (pod : Obj) (pkv : List (Int × Value)) (n : Nat) (h1 h2 : Int) (k1 k2 to tb tm tb2 tw : Tok) (b mo wt : Int) (O : Array UInt8) (ks : List Int) (hO : KBw.bInts O = ks) (hks : ks.length ≤ 60) (hb : 1 ≤ b ∧ b ≤ 4) (hsm : ∀ k ∈ ks, small k) (hmo : 1 ≤ mo ∧ mo ≤ 1000)
   (hpd : pod.IsDictOf (intKind PySem.Challenge.rw_pb0086_01.row.prog w) pkv) (plo : (pd == sysModules) = false) (hDL : DL ptl pkv ((PP ks b (nbk ks.length b)).map fun q => (q.1, cap mo q.2))) :
   CtrL 32 w 130 [.bytes O to, .int b tb, .int mo tm, .ref pd, .ref x] ((pd, pod) :: (x, instObj 45 dx) :: (dx, dictOf [⟨h1, .str "block" k1, .int b tb2⟩, ⟨h2, .str "weight" k2, .int wt tw⟩] n) :: (ptl ++ news))
     (fun r tl => tl = [] ∧ r = .bool true) := by
  w_top off; unfold CtrL; k_fill; intro mean mg mb dp un gd cn cs a ccd cl outer A₀ base h₀ L m s Q E B F X N T hk hd hu hret; refine wpAny_call ?_; k_dflt (refine' code_defC ?k1 ?k2 ?k3 ?k4 ?k5 ?kA ?kF ?kK ?k6 ?k7 ?k8 ?k9 ?kB ?kD ?_ ?c2 ?c3 ?c4; (case kA => exact rfl); (case kF => exact rfl); (case kK => first | exact rfl | assumption); (case k1 => k_asm); (case k2 => k_asm); (case k3 => k_asm); (case k4 => k_asm); (case k5 => k_asm); (case k6 => k_is); (case k7 => k_is); (case k8 => ktr_room); (case k9 => first | exact BindsTo.of_eq rfl | exact binds_K (by k_in) rfl (by k_is) rfl rfl rfl); (case kB => exact rfl); (case kD => decide +kernel); (case c2 => exact rfl); (case c3 => exact rfl); (case c4 => exact rfl); k_whole; intro g' L' h' tk' cells' FG' F' N' Y' B' X' T' l1; (try k_lt l1); k_cells Y'; (try simp only [List.cons_append, List.nil_append] at N'); (try dsimp only); (try k_lift B'); (try k_fold))
  rename_i z1 z2 z3 z4 z5 z6 z7 z8
  k_steps
  refine Hold.mk ?_
  (rename News _ _ _ _ => nN; k_dflt (refine' CtrL.useL (ps := []) nN (c_blocks w _ O ks b _ _ hO (by omega) ⟨hb.1, by omega⟩) ?kM ?kB ?kF ?kX ?kT ?kK ?kd ?ku ?_; (case kM => exact (by intro p hp; exact nomatch hp)); (case kB => k_asm); (case kF => k_asm); (case kX => k_asm); (case kT => k_asm); (case kK => first | exact rfl | assumption); (case kd => ktr_room); (case ku => ktr_units)); intro r9 tl9 h9 tk9 F9 N9 l9 o9; clear nN)
  obtain ⟨d, od, kvs, btl, rfl, rfl, dlo, hdd, hdDL⟩ := o9
  have hnL : Off L' (ptl ++ news) := off_lt l1.2.2.2
  have l1' := l1
  have hcm : ∀ q ∈ (d, od) :: btl, @LT.lt Nat _ q.1 L' ∨ @LT.lt Nat _ (L' + 4) q.1 := fun q hq => own_side (I := q.1) (oI := q.2) N9 (List.mem_append.mpr (.inr hq)) (l9 _ (.tail _ (.tail _ (.tail _ (.head _)))) q hq) (l9 _ (.tail _ (.tail _ (.head _))) q hq) (l9 _ (.tail _ (.head _)) q hq) (l9 _ (.head _) q hq)
  have hdO := hcm _ (.head _)
  dsimp only at hdO
  have hbO : Off L' btl := fun q hq => hcm q (.tail _ hq)
  have hallO := off_app hbO hnL
  have hd3 : pd ≠ d := l9 (pd, _) (.tail _ (.tail _ (.tail _ (.tail _ (.head _))))) _ (.head _)
  have hd4 : x ≠ d := l9 (x, _) (.tail _ (.tail _ (.tail _ (.tail _ (.tail _ (.head _)))))) _ (.head _)
  have hd5 : dx ≠ d := l9 (dx, _) (.tail _ (.tail _ (.tail _ (.tail _ (.tail _ (.tail _ (.head _))))))) _ (.head _)
  replace hd3 := neN hd3
  replace hd4 := neN hd4
  replace hd5 := neN hd5
  replace N9 := cb_drop N9 kp_sub
  have hnb := nbk_le (len := ks.length) hb.1 (by omega)
  have hpl : pkv.length < 64 := by
    have e1 := hDL.length
    have e2 := PP_size (ks := ks) (b := b) (nbk ks.length b)
    rw [List.length_map] at e1
    omega
  k_steps
  refine Hold.mk ?_
  rename Obj => zdue
  rename zdue.data = _ => ddue
  rename Fr _ _ _ _ => zF
  rename News _ _ _ _ => zN
  refine sorted_dict rfl zF zN (by k_mem) hpd plo hpl ?_
  intro lD vS sk cS h11 tk11 F11 N11 l11 hiS hpS hPS
  clear zF zN
  k_steps
  refine Hold.mk ?_
  rename Fr _ _ _ _ => zF
  k_dflt (refine ListComp_dict (bytesKind _ _) zF (by with_unfolding_all rfl) (by decide) (by rfl) (by decide) (by rfl) ?_)
  k_steps
  refine Hold.mk ?_
  have l11' := l11
  k_lt l11
  have hkl := hdDL.length
  have hDs : ∀ (i : Nat), i < nbk ks.length b → (i : Int) * b + b ≤ O.toList.length := fun i hi => by
    have := nbk_lt hb.1 hi
    rw [← hO] at this
    simpa [KBw.bInts] using this
  have hkn := PyProof.Rows.keysNodup_of_isDictOf hdd
  have hpl2x : ∀ q ∈ DD O.toList b (nbk ks.length b), q.2.length ≤ 60 := fun q hq => by have := DD_len _ q hq; omega
  have hpkn := PyProof.Rows.keysNodup_of_isDictOf hpd
  have hDz := DD_size (l := O.toList) (b := b) (nbk ks.length b)
  have hks' : ib O.toList = ks := hO
  have hOl : (O.toList.length : Int) = ks.length := by rw [← hks']; unfold ib; rw [List.length_map]
  refine ⟨d, od, kvs, _, rfl, dlo, rfl, zF, N11, by k_mem, hdd, ?_, ?_⟩
  · rw [sizeLine_eq]; omega
  have hPP : PP ks b (nbk ks.length b) = (DD O.toList b (nbk ks.length b)).map keyed := by
    have hh := PP_DD (l := O.toList) ⟨hb.1, hb.2⟩ (hks'.symm ▸ hsm) hDs _ (Nat.le_refl _)
    rw [hks'] at hh; exact hh
  have hdsm : (DD O.toList b (nbk ks.length b)).map (dsum ks b) = (DD O.toList b (nbk ks.length b)).map fun q => ofsum (ib q.1) := by
    have hh := dsums (l := O.toList) hb.1 (nbk ks.length b)
    rw [hks'] at hh; exact hh
  rintro s₂ ⟨hX, rfl⟩
  refine kcf_any (rs := (DD O.toList b (nbk ks.length b)).map (dsum ks b)) (by rw [List.length_map, hkl]) ?turn ?fin
  case turn =>
    intro i v I oI C oC D m₂ ys h tk E' hi hv hC hx F N off ne
    obtain ⟨k, z, hkv, hki⟩ := hv
    obtain ⟨t, rfl⟩ := bytes_shape hki
    obtain ⟨l, vs, nl, xs, rfl, hlm, hli, hDi⟩ := hdDL.at hkv
    have hvk := valueAt_at hkn hkv
    have hqm := List.mem_of_getElem? hDi
    have hpk := DD_plok hb.1 _ _ hqm
    have hpf := plok_first hb.1 hpk hDs
    dsimp only at hpf
    (try simp only [LCg.Off3, and_true] at off)
    k_steps
    refine Hold.mk ?_
    rename News _ _ _ _ => zN
    refine kda_item zN (by k_mem) hdd hki hvk ?_
    have hlm' : (l, listOf vs.toArray nl) ∈ btl ++ (ptl ++ news) := List.mem_append.mpr (.inl hlm)
    k_steps
    refine Hold.mk ?_
    refine item_ints_any (isL_news zN (by repeat (first | exact hlm' | apply List.Mem.tail))) hli (Int.le_refl 0) (by omega) (by omega) ?_
    intro t0
    k_steps
    refine Hold.mk ?_
    (rename News _ _ _ _ => nN; k_dflt (refine' CtrL.useL (ps := [_, _]) nN (c_of w _ x dx n _ _ _ _ _ _ _ _ b wt (xs.getD 0 0) O ks hO (by omega) ⟨by omega, by omega⟩ ⟨hpf.1, by omega⟩) ?kM ?kB ?kF ?kX ?kT ?kK ?kd ?ku ?_; (case kM => exact List.forall_mem_cons.mpr ⟨by k_mem, List.forall_mem_cons.mpr ⟨by k_mem, (fun _ hp => nomatch hp)⟩⟩); (case kB => k_asm); (case kF => k_asm); (case kX => k_asm); (case kT => k_asm); (case kK => first | exact rfl | assumption); (case kd => ktr_room); (case ku => ktr_units)); intro r9 tl9 h9 tk9 F9 N9 l9 o9; clear nN)
    obtain ⟨rfl, t9, rfl⟩ := o9
    rw [List.append_nil] at N9
    k_steps
    refine Hold.mk ?_
    refine LCg.CompEnd.intro (by assumption) N9 _ (fun p hp => hp) off (by k_mem) ?_
    refine kcf_el (r' := ofsum ((ks.drop (xs.getD 0 0).toNat).take b.toNat)) ?_ rfl rfl
    simp only [List.getD_eq_getElem?_getD, List.getElem?_map, hDi, Option.map_some, Option.getD_some]
    rfl
  case fin =>
    intro ys hys
    k_steps
    refine Hold.mk ?_
    rename Fr _ _ _ _ => yF
    rename News _ _ _ _ => yN
    rename _ ∧ _ => yo
    refine kso_sorted yF yN (isL_news yN (.head _)) hys (by rw [List.length_map]; omega) ?_
    intro D2 vS2 sk2 cS2 h12 F12 N12 l12 hiS2 hpl2 hpS2 hPS2 _
    have hkeq : sk = sk2 := by
      refine sorted_eq (hpS.trans (List.Perm.trans (List.Perm.of_eq ?_) hpS2.symm)) hPS hPS2
      rw [hDL.keys, hdsm, hPP, List.map_map, List.map_map]
      rfl
    k_steps
    refine Hold.mk ?_
    rename News _ _ _ _ => xN
    refine ke_ne_ints (isL_news xN (.tail _ (.tail _ (.head _)))) (isL_news xN (.head _)) hiS hiS2 (by ktr_units) ?_
    rw [decide_eq_true hkeq]
    k_steps
    refine Hold.mk ?_
    rename Fr _ _ _ _ => lF
    k_dflt (with_unfolding_all refine' kf_dict (σ := Obj) (d := d) (od := od) (kvs := kvs) (knd := bytesKind _ _)
                                        (fun c => (L' + 1 + 1 + 1 + 1, c) :: (L' + 1 + 1 + 1, zdue) :: (L' + 1 + 1, z3) :: (L' + 1, z4) :: (pd, pod) :: (x, instObj 45 dx) :: (dx, dictOf [⟨h1, .str "block" k1, .int b tb2⟩, ⟨h2, .str "weight" k2, .int wt tw⟩] n) :: (d, od) :: (btl ++ (ptl ++ news)))
                                        (fun _ => []) [Str.ofString "told"]
                                        (fun i c => ∃ v, c.data = .cell v)
                                        z1 rfl ?km hdd dlo lF (cb_drop xN (fun p hp => .tail _ (.tail _ (.tail _ hp)))) ?kk ⟨_, z5⟩ ?tern ?done)
    case km => k_mem
    case kk => exact (fun _ h => nomatch h)
    case tern =>
      intro c I i k z v u h tk own oI hkv hki hown hfp hI hP' F1 N1
      refine wp_gen fun R9 E9 hR9 => ?_
      dsimp only [kstB] at hI hP' F1 N1
      obtain ⟨v0, hv0⟩ := hP'
      obtain ⟨t, rfl⟩ := bytes_shape hki
      obtain ⟨l, vs, nl, xs, rfl, hlm, hli, hDi⟩ := hdDL.at hkv
      have hvk := valueAt_at hkn hkv
      have hqm := List.mem_of_getElem? hDi
      have hpk := DD_plok hb.1 _ _ hqm
      have hpf := plok_first hb.1 hpk hDs
      dsimp only at hpf
      simp only [List.cons_append] at N1
      have hownO : Off L' own := fun p hp => by
        rcases List.mem_cons.mp (hfp p hp) with e | e
        · rw [e]; exact own_side N1 (I := I) (oI := oI) (by repeat (first | exact List.mem_append.mpr (.inr hown) | apply List.Mem.tail)) (hI (_, z4) (by k_mem)) (hI (_, z3) (by k_mem)) (hI (_, zdue) (by k_mem)) (hI (_, c) (by k_mem))
        · rw [List.mem_singleton.mp e]; exact hdO
      have hallT : Off L' (btl ++ (ptl ++ news) ++ own) := off_app hallO hownO
      have hlm' : (l, listOf vs.toArray nl) ∈ btl ++ (ptl ++ news) ++ own := List.mem_append.mpr (.inl (List.mem_append.mpr (.inl hlm)))
      have hsum : ofsum ((ks.drop (xs.getD 0 0).toNat).take b.toNat) = ofsum (ib k) := by
        have hh := dsum_key hpk
        rw [hks'] at hh; exact hh
      have hPi : ((PP ks b (nbk ks.length b)).map fun q => (q.1, cap mo q.2))[i]? = some (ofsum (ib k), cap mo xs) := by
        rw [hPP, List.map_map, List.getElem?_map, hDi]; rfl
      obtain ⟨l2, vs2, nl2, hvp, hlm2, hli2⟩ := hDL.at2 hpkn hPi
      have hlm2' : (l2, listOf vs2.toArray nl2) ∈ btl ++ (ptl ++ news) ++ own := List.mem_append.mpr (.inl (List.mem_append.mpr (.inr (List.mem_append.mpr (.inl hlm2)))))
      rw [← hsum] at hvp
      k_steps
      refine Hold.mk ?_
      rename News _ _ _ _ => zN
      refine kda_item zN (by k_mem) hdd hki hvk ?_
      k_steps
      refine Hold.mk ?_
      refine item_ints_any (isL_news zN (by repeat (first | exact hlm' | apply List.Mem.tail))) hli (Int.le_refl 0) (by omega) (by omega) ?_
      intro t0
      k_steps
      refine Hold.mk ?_
      (rename News _ _ _ _ => nN; k_dflt (refine' CtrL.useL (ps := [_, _]) nN (c_of w _ x dx n _ _ _ _ _ _ _ _ b wt (xs.getD 0 0) O ks hO (by omega) ⟨by omega, by omega⟩ ⟨hpf.1, by omega⟩) ?kM ?kB ?kF ?kX ?kT ?kK ?kd ?ku ?_; (case kM => exact List.forall_mem_cons.mpr ⟨by k_mem, List.forall_mem_cons.mpr ⟨by k_mem, (fun _ hp => nomatch hp)⟩⟩); (case kB => k_asm); (case kF => k_asm); (case kX => k_asm); (case kT => k_asm); (case kK => first | exact rfl | assumption); (case kd => ktr_room); (case ku => ktr_units)); intro r9 tl9 h9 tk9 F9 N9 l9 o9; clear nN)
      obtain ⟨rfl, t9, rfl⟩ := o9
      rw [List.append_nil] at N9
      k_steps
      refine kda_item N9 (by k_mem) hpd (intKind_is _ _ _ _) hvp ?_
      k_steps
      refine Hold.mk ?_
      have hcl2 := cap_len2 (mo := mo) (l := xs) (by omega)
      have hxl := hpl2x _ hqm
      dsimp only at hxl
      refine kup_listOf F9 N9 (b := l2) (its2 := vs2.toArray) (zs := vs2) (by repeat (first | exact hlm2' | apply List.Mem.tail)) rfl ?_ (by rw [sizeLine_eq]; show vs2.length ≤ _; rw [hli2.length]; omega)
      intro D3 c3 h13 F13 N13 l13
      clear N9
      k_lt l13
      k_steps
      refine Hold.mk ?_
      rename News _ _ _ _ => zN
      refine kda_item zN (by k_mem) hdd hki hvk ?_
      have hch := cap_head (mo := mo) (xs := xs) hmo.1 (by intro e; rw [e] at hpf; exact absurd hpf.2.2 (Nat.lt_irrefl 0))
      have hcn : 0 < (cap mo xs).length := List.length_pos_iff.mpr hch.2
      have hch0 := hch.1
      have hcm9 := cap_length (mo := mo) (xs := xs) hmo.1
      k_steps
      refine Hold.mk ?_
      rename News _ _ _ _ => zN
      refine item_ints_any (isL_news zN (by repeat (first | exact hlm' | apply List.Mem.tail))) hli (Int.le_refl 0) (by omega) (by omega) ?_
      intro t2
      rw [show Int.toNat 0 = 0 from rfl, hch0]
      k_steps
      · exfalso; exact (‹xs.getD 0 0 ≠ xs.getD 0 0›) rfl
      refine Hold.mk ?_
      rename Fr _ _ _ _ => zF
      rename News _ _ _ _ => zN
      refine kso_sorted zF zN (isL_news zN (by k_mem)) hli2 (by omega) ?_
      intro D4 vS4 sk4 cS4 h14 F14 N14 l14 hiS4 hpl4 hpS4 hPS4 _
      have hxlt := hpk.2.1
      dsimp only at hxlt
      have hclt := cap_lt (mo := mo) hmo.1 hxlt
      have hkeq4 : cap mo xs = sk4 := sorted_eq hpS4.symm (lt_le hclt) hPS4
      k_steps
      refine Hold.mk ?_
      rename News _ _ _ _ => nN9
      refine ke_ne_ints (isL_news nN9 (by k_mem)) (isL_news nN9 (.head _)) hli2 hiS4 (by ktr_units) ?_
      rw [decide_eq_true hkeq4]
      k_steps
      refine len_ints_fit (isL_news nN9 (by repeat (first | exact hlm' | apply List.Mem.tail))) hli (by omega) ?_
      have hmin : ((cap mo xs).length : Int) = if (xs.length : Int) < mo then (xs.length : Int) else mo := by rw [hcm9]; split <;> omega
      k_steps
      · exfalso; exact absurd hmin (by assumption)
      refine Hold.mk ?_
      rename Fr _ _ _ _ => zF
      rename News _ _ _ _ => zN
      k_dflt (refine LCt.ListComp_T zF (by with_unfolding_all rfl) (by decide) (by rfl) (by decide) (by rfl) ?_)
      k_steps
      refine Hold.mk ?_
      refine LCt.CompSrcT.ledger (its := vs2.toArray) (k := c3) (by rfl) zF zN (by k_mem) (by rw [sizeLine_eq, List.size_toArray, hli2.length]; omega) ?_
      intro g2
      refine' kci_list (fun l _ => l) hli2 (fun k' t' I' oI' C' oC' D' m' ys' l' h' tk' E' hk' hI' hC' hx' F' N' off' ne' hMark' => ?_) ?_ ?_
      · k_steps
        refine Hold.mk ?_
        refine notin_list_ints (isL_news N' (by repeat (first | exact hlm' | apply List.Mem.tail))) hli ?_
        have hin9 : (xs.any (· == k')) = true := List.any_eq_true.mpr ⟨k', cap_sub hmo.1 k' hk', by simp⟩
        rw [hin9]
        k_steps
        refine Hold.mk ?_
        exact LCg.CompEnd.intro (by assumption) N' _ (fun p hp => hp) off' (.inr ⟨_, by k_mem, rfl, _, rfl⟩) ⟨rfl, rfl⟩
      · intro ys hys _
        rw [foldl_keep] at hys
        k_steps
        refine Hold.mk ?_
        rename News _ _ _ _ => zN2
        refine ke_ne_ints (ns := []) (ms := []) (isL_news zN2 (.tail _ (.head _))) (isL_news zN2 (.head _)) hys IntsAre.nil (by ktr_units) ?_
        k_steps
        refine Hold.mk ?_
        rename Fr _ _ _ _ => yF
        k_dflt (refine LCg.ListComp_U yF (by with_unfolding_all rfl) (by decide) (by rfl) (by decide) (by rfl) ?_)
        k_steps
        refine Hold.mk ?_
        refine LCg.CompSrc.ledger (its := vs2.toArray) (k := c3) (by rfl) yF zN2 (by k_mem) (by rw [sizeLine_eq, List.size_toArray, hli2.length]; omega) ?_
        intro g3
        refine' kcf_pairs hli2 (fun k' t' I' oI' C' oC' D' m' ys' nw' h' tk' E' hk' hC' hx' F' N' off' ne' hsub' => ?_) ?_
        · k_steps
          refine Hold.mk ?_
          rename News _ _ _ _ => zN3
          rename _ ∧ _ => l1z
          exact LCg.CompEnd.intro (by assumption) zN3 ((_, _) :: nw') ce_sub ⟨⟨Nat.ne_of_gt l1z.1, Nat.ne_of_gt l1z.2.1, Nat.ne_of_gt l1z.2.2.1⟩, off'⟩ (.inr ⟨_, .tail _ (hsub' _ (by k_mem)), rfl, _, rfl⟩) ⟨_, _, _, rfl, rfl⟩
        · intro ys3 nw3 hsub3 hp3
          have hp3l := hp3.1
          k_steps
          refine Hold.mk ?_
          rename Fr _ _ _ _ => yF3
          rename News _ _ _ _ => zN3
          refine call_dict_pairs (kk := ys3.length) rfl yF3 zN3 (modules_low (Top.nolimit T')) (.head _) (hp3.at (fun p hp => zN3 p (.tail _ hp))) (by omega) hp3l.symm (lt_nodup hclt) ?_
          intro od9 kv9 h9' tk9' F9' N9' hd9 hl9 lo9
          k_steps
          refine kda_len N9' (.head _) hd9 lo9 (by omega) ?_
          k_steps
          refine len_ints_fit (isL_news N9' (.tail _ (.tail _ (hsub3 _ (by k_mem))))) hli2 (by omega) ?_
          k_steps
          · exfalso; omega
          rename Fr _ _ _ _ => yF9
          rename News _ _ _ _ => zN9
          refine hR9 _ _ (kf_end _ yF9 zN9 (fun p hp => .tail _ (.tail _ (hsub3 p (.tail _ (.tail _ (.tail _ (.tail _ (.tail _ (kp_led p hp)))))))) ) (fun p hp => .tail _ (.tail _ (hsub3 p (.tail _ (.tail _ (.tail _ (.tail _ (.tail _ (kp_own p hp)))))))) ) (List.forall_mem_cons.mpr ⟨hI (_, c) (.head _), fun p hp => hI p (.tail _ hp)⟩) (fun _ h => nomatch h) (by intro z h1 _ h3; simp at h3; simp [h1, h3]) ⟨_, by assumption⟩)
      · intro _ _; exact Nat.le_succ _
    case done =>
      intro c u h tk hP' F1 N1
      k_steps
      exact hret _ [] _ _ (by k_asm) (cb_drop (by k_asm) kp_done) (fun _ _ _ h => nomatch h) ⟨rfl, rfl⟩
end Mine
namespace Mine
open PySem.Calls
section
variable {prog : Program} {w : World} {A : Around} {E : Value → Shared → Prop} {s : Shared}
theorem ba_mro : mroOf (.type "bytearray") = pure [.type "bytearray", .type "object"] := by rw [mroOf_type]; kernel_rfl
theorem ba_new : typeLookup (.type "bytearray") "__new__" = pure (some (.builtin "bytearray.__new__")) := by rw [typeLookup_type, builtinLookup_eq_fast]; kernel_rfl
theorem ba_init : typeLookup (.type "bytearray") "__init__" = pure (some (.builtin "bytearray.__init__")) := by rw [typeLookup_type, builtinLookup_eq_fast]; kernel_rfl
theorem ba_call (a : Value) : checkTypeCall "bytearray" ⟨[a], []⟩ = pure () := by kernel_rfl
theorem ba_newc (a : Value) : checkBuiltinCall "bytearray.__new__" ⟨[.type "bytearray", a], []⟩ = pure () := by kernel_rfl
theorem ba_made : Bind.madeBy (.type "bytearray") = pure (some "bytearray.__new__") := madeBy_type ba_mro ba_new (by decide +kernel)
theorem ba_boot : bootBuiltins (Str.ofString "bytearray") = some (.type "bytearray") := by kernel_rfl
theorem ba_entry_new : entryFor table "bytearray.__new__" = some Builtin.«list.__new__» := entryFor_alias (id' := "list.__new__") (by kernel_rfl) (by simp +decide [String.splitOn, String.splitOnAux]) (by decide +kernel) (by kernel_rfl)
theorem ba_plain_new : plainId "bytearray.__new__" = true := by decide +kernel
set_option maxRecDepth 1000000 in
set_option maxHeartbeats 4000000 in
theorem ba_owner : ("bytearray.__new__".splitOn ".__new__").headD "" = "bytearray" := by simp +decide [String.splitOn, String.splitOnAux]
theorem ba_sub : isSubtype (.type "bytearray") (.type "bytearray") = pure true := by rw [isSubtype_type]; kernel_rfl
theorem ba_code_new (a : Value) {Q₁ : Value → Shared → Prop} (h : Q₁ (.ref s.heap.objs.size) { s with heap := s.heap.push { cls := .type "bytearray", data := .bytearray #[] } }) :
    codeAny (model prog w) A (.call (.builtin "bytearray.__new__") ⟨[.type "bytearray", a], []⟩) (wants Q₁ E) s := by
  refine codeAny_of_tree ?_
  show wpAny _ A.in1 (do checkBuiltinCall "bytearray.__new__" ⟨[.type "bytearray", a], []⟩; again (.builtin "bytearray.__new__" ⟨[.type "bytearray", a], []⟩)) _ _ s
  refine wpAny_bind (wpAny_of_eq (ba_newc a) (wpAny_pure ⟨plainId_quiet ba_plain_new _, codeAny_builtin_stack ba_entry_new rfl fun p st => ?_⟩))
  rw [Around.under_plainId ba_plain_new _]
  have hsub := ba_sub
  have hown := ba_owner
  obtain ⟨hp, g, d, tk, os⟩ := s
  simp only [hown]
  wp_walk
  exact h
theorem ba_slot_init : Slot "bytearray" "__init__" "bytearray.__init__" :=
  .of (owner := "bytearray") (n := "__init__") ba_init (by decide +kernel) (by decide +kernel) (by decide +kernel)
    (by first | exact .inl (by decide +kernel) | exact .inr (by decide +kernel)) ba_sub
theorem ba_entry_init : entryFor table "bytearray.__init__" = some Builtin.«bytearray.__init__» := entryFor_of_tree (by kernel_rfl)
theorem ba_args_init (a b : Value) : argsOk "bytearray.__init__" ⟨[a, b], []⟩ := by unfold argsOk; kernel_rfl
theorem codeR_builtin {id : String} {args : Args} {b : Builtin} {R : Result → Shared → Prop} (hb : entryFor table id = some b)
    (h : wpR (model prog w) (A.under (.builtin id args)) (b args) (fun fin s' => match fin with | .done f => R (.ok f) s' | .again c' => c'.quiet = true ∧ okCode c' = true ∧ codeR (model prog w) A c' R s') (fun e s' => R (.error e) s') s) :
    codeR (model prog w) A (.builtin id args) R s := by
  refine codeR_of_tree ?_
  show wpR _ _ (match entryFor table id with | some b => b args | none => _) _ _ s
  rw [hb]; exact h
end
end Mine
namespace Mine
open PySem.Calls
section
variable {prog : Program} {w : World} {A : Around} {E : Value → Shared → Prop} {s : Shared}
theorem ba_rel : typeLookup (.type "bytearray") "__release_buffer__" = pure (some (.builtin "bytearray.__release_buffer__")) := by rw [typeLookup_type, builtinLookup_eq_fast]; kernel_rfl
theorem by_index : typeLookup (.type "bytes") "__index__" = pure none := by rw [typeLookup_type, builtinLookup_eq_fast]; kernel_rfl
theorem ba_own_rel {a : Addr} {Q : Bool → Shared → Prop} (hT : s.TypeIs (.ref a) "bytearray") (h : Q false s) : wpAny (model prog w) A (Builtin.Bytes.ownRelease (.ref a)) Q E s := by
  unfold Builtin.Bytes.ownRelease Builtin.Bytes.slotIsOwn
  refine wpAny_bind (wpAny_bind (wpAny_specialOf hT ba_rel ?_))
  split
  · rename_i hx; cases hx
  · rename_i id hx
    cases hx
    refine wpAny_ite ?_
    rw [if_neg (by decide +kernel)]
    have key : ∀ x : String, x = "bytearray" → ∀ Q' : Bool → Shared → Prop, Q' true s → wpAny (model prog w) A (isInstance (.ref a) (.type x)) Q' E s := fun x hx Q' h' => by subst hx; exact wpAny_isInstance hT ba_sub h'
    exact key _ (by decide +kernel) _ (wpAny_pure h)
  · rename_i v hn hx; cases hx; exact absurd rfl (hn _)
theorem ba_write {a : Addr} {o : Obj} {b : Array UInt8} {n : Nat} {f : Array UInt8 → Array UInt8} {Q : Unit → Shared → Prop} (ho : s.heap.get? a = some o) (hd : o.data = .bytearray b n) (hz : (f b).size ≤ sizeLine)
    (h : Q () { s with heap := s.heap.update a (Obj.mapBytearray f) }) : wpAny (model prog w) A (Builtin.Bytes.write (.ref a) f) Q E s := by
  show wpAny _ _ (updateBytearray a f) _ _ _
  unfold updateBytearray
  refine wpAny_bind (wpAny_load ho ?_)
  rw [hd]
  refine wpAny_bind (wpAny_update ho ?_)
  refine wpAny_lookBehind (o := Obj.mapBytearray f o) (Heap.get?_update_self _ ho (by obtain ⟨c, d, dt, sl⟩ := o; cases hd; rfl)) ?_ h
  obtain ⟨c, d, dt, sl⟩ := o
  cases hd
  show (if (f b).size > sizeLine then _ else _) = _
  rw [if_neg (Nat.not_lt.mpr hz)]
theorem wpR_f {α : Type} {M : Model} {a b : Sem α} {Q : α → Shared → Prop} (h : wpR M A b Q E s) : wpR M A (if false = true then a else b) Q E s := h
theorem wpR_fb {α : Type} {M : Model} {a b : Sem α} {Q : α → Shared → Prop} {c : Bool} (hc : c = false) (h : wpR M A b Q E s) : wpR M A (if c = true then a else b) Q E s := by subst hc; exact h
theorem wpR_neg {α : Type} {M : Model} {a b : Sem α} {Q : α → Shared → Prop} {c : Prop} [Decidable c] (hc : ¬ c) (h : wpR M A b Q E s) : wpR M A (if c then a else b) Q E s := by rw [if_neg hc]; exact h
theorem ba_init_body {a : Addr} {b : Array UInt8} {t : Tok} {Q : Fin → Shared → Prop} (hg : A.guards = some []) (hb : b.size ≤ sizeLine)
    (ho : s.heap.get? a = some { cls := .type "bytearray", data := .bytearray #[] })
    (h : Q (.done (.ret .none)) { s with heap := (s.heap.update a (Obj.mapBytearray fun _ => #[])).update a (Obj.mapBytearray fun _ => b) }) :
    wpR (model prog w) A (Builtin.«bytearray.__init__» ⟨[.ref a, .bytes b t], []⟩) Q E s := by
  have hT : s.TypeIs (.ref a) "bytearray" := ⟨_, ho, rfl⟩
  unfold Builtin.«bytearray.__init__»
  refine wpR_bindA (ba_own_rel hT ?_)
  refine wpR_f ?_
  show wpR _ _ (Builtin.Bytes.bindOptional "bytearray.__init__" "bytearray" ["source", "encoding", "errors"] [.bytes b t] [] >>= _) _ _ _
  refine wpR_bindA (wpAny_of_eq (a := [some (.bytes b t), none, none]) (by kernel_rfl) ?_)
  dsimp only
  refine wpR_bindA (wpAny_of_eq (a := ()) rfl ?_)
  refine wpR_bindA (wpAny_of_eq (a := ()) rfl ?_)
  unfold orM
  refine wpR_bind (wpR_bind (wpR_exported hg ?_))
  show wpR _ _ (Builtin.Bytes.exportsOf (.ref a) >>= fun x => pure (decide (x > 0))) _ _ _
  unfold Builtin.Bytes.exportsOf
  refine wpR_bindA (wpAny_bind (wpAny_load ho (wpAny_pure ?_)))
  refine wpR_of (wpAny_pure ?_)
  show wpR _ _ (ite (false = true) _ _) _ _ _
  refine wpR_f ?_
  refine wpR_bindA (ba_write ho rfl (Nat.zero_le _) ?_)
  refine wpR_bindA (wpAny_of_eq (a := none) rfl ?_)
  show wpR _ _ (ite (false = true) _ _) _ _ _
  refine wpR_f ?_
  refine wpR_bindA (wpAny_pure ?_)
  refine wpR_bindA (wpAny_of_eq (a := none) (KBy.special_eq by_index) ?_)
  show wpR _ _ (ite (false = true) _ _) _ _ _
  refine wpR_f ?_
  refine wpR_bindA (wpAny_of_eq KBy.buffer_eq ?_)
  dsimp only
  refine wpR_bindA (wpAny_rule ?_)
  refine wpR_bindA (ba_write (b := #[]) (o := Obj.mapBytearray (fun _ => #[]) { cls := .type "bytearray", data := .bytearray #[] }) (Heap.get?_update_self _ ho rfl) rfl hb ?_)
  refine wpR_of ?_
  exact wpAny_bind (wpAny_pure (wpAny_pure h))
end
end Mine
namespace Mine
open PySem.Calls
theorem push_up (h : Heap) (o : Obj) (f : Obj → Obj) : (h.push o).update h.objs.size f = h.push (f o) := by
  obtain ⟨objs, l⟩ := h
  simp only [Heap.update, Heap.push, Heap.mk.injEq, and_true]
  apply Array.ext_getElem?
  intro i
  simp only [Array.getElem?_modify, Array.getElem?_push]
  by_cases h1 : i = objs.size <;> simp_all <;> (intro h2; exact absurd h2.symm h1)
theorem wpR_of_R {α : Type} {M : Model} {A : Around} {t : Sem α} {Q Q' : α → Shared → Prop} {E E' : Value → Shared → Prop} {s : Shared} (h : wpR M A t Q E s) (hQ : ∀ a s, Q a s → Q' a s) (hE : ∀ e s, E e s → E' e s) : wpR M A t Q' E' s := wpR_mono h hQ hE
section
variable {prog : Program} {w : World} {A : Around} {E : Value → Shared → Prop} {s : Shared}
theorem wpR_bytearray {b : Array UInt8} {t : Tok} {Q : Value → Shared → Prop} (hg : A.guards = some []) (hb : b.size ≤ sizeLine)
    (h : ∀ tk, Q (.ref s.heap.objs.size) { s with heap := s.heap.push { cls := .type "bytearray", data := .bytearray b }, toks := tk }) :
    wpR (model prog w) A (call (.type "bytearray") [.bytes b t]) Q E s := by
  refine wpR_call (codeR_of_tree ?_)
  show wpR _ _ (callAny (.type "bytearray") _) _ _ _
  refine wpR_of (wpAny_pure ⟨Code.quiet_builtin _ (by decide +kernel), rfl, codeR_builtin F.entry_type_call ?_⟩)
  rw [Around.under_plain (weight_type_call_type "bytearray" [.bytes b t] []) rfl]
  have hct := ba_call (.bytes b t)
  have hmro := ba_mro
  have h1 : (Value.type "bytearray" == Value.type "type") = false := by decide
  unfold Builtin.«type.__call__»
  dsimp only
  refine wpR_fb h1 ?_
  refine wpR_neg (by decide +kernel) ?_
  refine wpR_bindA (wpAny_of_eq hct ?_)
  refine wpR_bindA (wpAny_of_eq hmro ?_)
  refine wpR_f ?_
  refine wpR_bindA (wpAny_of_eq ba_made ?_)
  dsimp only
  refine wpR_bindA (wpAny_pure ?_)
  refine wpR_bindA (wpAny_holding (wpAny_call (codeAny_mono (ba_code_new (.bytes b t) (E := E) (Q₁ := fun obj s₁ => obj = .ref s.heap.objs.size ∧ s₁ = { s with heap := s.heap.push { cls := .type "bytearray", data := .bytearray #[] } }) ⟨rfl, rfl⟩) fun r s₁ hr => ?_)))
  cases r with
  | error e => exact hr
  | ok fl =>
    cases fl with
    | ret obj =>
      obtain ⟨rfl, rfl⟩ := hr
      have hS : (s.heap.push { cls := .type "bytearray", data := .bytearray #[] }).get? s.heap.objs.size = some { cls := .type "bytearray", data := .bytearray #[] } := Heap.get?_push_size _ rfl
      have hT : Shared.TypeIs { s with heap := s.heap.push { cls := .type "bytearray", data := .bytearray #[] } } (.ref s.heap.objs.size) "bytearray" := ⟨_, hS, rfl⟩
      refine wpR_bindA (wpAny_isInstance hT ba_sub ?_)
      refine wpR_f ?_
      refine wpR_bind (wpR_holding ?_)
      unfold callSpecial?
      refine wpR_bindA (wpAny_specialOf hT ba_init ?_)
      dsimp only
      refine wpR_holding (wpR_bindA (wpAny_of_eq (ba_slot_init.bind _) ?_))
      dsimp only [List.cons_append, List.nil_append]
      refine wpR_bind (wpR_call (codeR_of_tree ?_))
      show wpR _ A.in1.in1 (do checkBuiltinCall "bytearray.__init__" ⟨[.ref s.heap.objs.size, .bytes b t], []⟩; again (.builtin "bytearray.__init__" ⟨[.ref s.heap.objs.size, .bytes b t], []⟩)) _ _ _
      refine wpR_bindA (ba_slot_init.check _ _ _ _ _ _ _ _ hT (ba_args_init _ _) ?_)
      refine wpR_of (wpAny_pure ⟨plainId_quiet ba_slot_init.plain _, (show (!Builtin.Bytes.decodersThatHold.contains "bytearray.__init__") = true by decide), codeR_builtin ba_entry_init ?_⟩)
      rw [Around.under_plainId ba_slot_init.plain _]
      refine wpR_of_R (ba_init_body hg hb hS (E := E) (Q := fun fin s' => fin = .done (.ret .none) ∧ s' = { s with heap := s.heap.push { cls := .type "bytearray", data := .bytearray b } }) ⟨rfl, ?_⟩) ?_ fun _ _ h => h
      · dsimp only
        rw [push_up, push_up]
        rfl
      · intro fin s₂ hf
        obtain ⟨rfl, rfl⟩ := hf
        dsimp only
        refine wpR_of (wpAny_pure ?_)
        dsimp only
        refine wpR_of ?_
        rw [if_neg (by decide)]
        exact wpAny_pure (h s.toks)
    | _ => exact hr.elim
end
end Mine
namespace Mine
open PySem.Calls
section
variable {prog : Program} {w : World} {A : Around} {s : Shared}
theorem wpR_onRaise {α : Type} {M : Model} {m : Sem α} {k : Value → Sem Unit} {Q : α → Shared → Prop} {E : Value → Shared → Prop}
    (h : wpR M A m Q (fun e s' => wpR M A (k e) (fun _ s'' => E e s'') E s') s) : wpR M A (m.onRaise k) Q E s := fun Γ p hΓ ho => by
  rw [Sem.wp_onRaise]
  exact Sem.wp_mono M Γ m (fun _ _ _ h' => h') (fun e p' s' h' => h' Γ p' hΓ ho) p s (h Γ p hΓ ho)
theorem codeR_func {R : Result → Shared → Prop} {body : List Stmt} {env : Env}
    (h : wpR (model prog w) (A.deeper env) (execs body env) (fun f s' => R (.ok (.ret (match f with | .ret v => v | _ => .none))) s') (fun _ _ => False) s) : codeR (model prog w) A (.func body env) R s := by
  refine codeR_of_tree ?_
  show wpR _ (A.deeper env) (do point; match ← (execs body env).onRaise (leaving env) with | .ret v => ret v | _ => ret .none) _ _ s
  refine wpR_bindA (wpAny_point (wpR_bind (wpR_onRaise (wpR_mono h (fun f s' h' => ?_) fun _ _ h' => h'.elim))))
  cases f <;> exact wpR_of (wpAny_pure h')
theorem codeR_cells {R : Result → Shared → Prop} {name : Str} {params : Arguments} {body : List Stmt} {scope : Scope}
    {pm cd doc : Value} {a : Addr} {o : Obj} {args : List Value} {binds : List (Str × Value)}
    (hroom : A.depth < recursionLimit) (ho : s.heap.get? a = some o) (hdata : o.data = .func (docDef name params body scope pm cd doc)) (hlim : s.heap.NoLimit) (hcd : s.heap.CodeRec cd name)
    (hbind : bindArgs (docDef name params body scope pm cd doc) ⟨args, []⟩ = pure binds)
    (hkind : ∀ x ∈ binds, scope.names.lookup x.1 = some .local ∨ (scope.names.lookup x.1 = some .cell ∧ ((cellsFrom (s.heap.objs.size + 1) scope.names []).lookup x.1).isSome = true))
    (hnd : ((cellsFrom 0 scope.names []).map (·.1)).Nodup)
    (h : ∀ h₁ tk cells, Fr s.heap s.heap.objs.size h₁ (bindL (envOfC name scope s.heap.objs.size a cd).kindOf binds fun _ => none) → News s.heap s.heap.objs.size h₁ cells →
      CellsAre (bindC (envOfC name scope s.heap.objs.size a cd).kindOf binds fun _ => none) (cellsFrom (s.heap.objs.size + 1) scope.names []) cells →
      wpR (model prog w) (A.deeper (envOfC name scope s.heap.objs.size a cd)) (execs body (envOfC name scope s.heap.objs.size a cd))
        (fun f s' => R (.ok (.ret (match f with | .ret v => v | _ => .none))) s') (fun _ _ => False) { s with heap := h₁, toks := tk })
    (hco : scope.isCoroutine = false := by rfl) (hgen : scope.isGenerator = false := by rfl) (hk : scope.kind = .function := by rfl) :
    codeR (model prog w) A (.call (.ref a) ⟨args, []⟩) R s := by
  refine codeR_of_tree ?_
  show wpR _ A.in1 (callAny (.ref a) ⟨args, []⟩) _ _ s
  simp only [callAny]
  refine wpR_bindA (wpAny_load ho ?_)
  obtain ⟨c, oc, vs, tq, hc, hoc, hdc, hq⟩ := hcd
  subst hc
  have e1 : (docDef name params body scope pm (.ref c) doc).scope.isCoroutine = false := hco
  have e2 : (docDef name params body scope pm (.ref c) doc).scope.isGenerator = false := hgen
  have e3 : (docDef name params body scope pm (.ref c) doc).body = .stmts body := rfl
  have e4 : (docDef name params body scope pm (.ref c) doc).code = .ref c := rfl
  simp only [hdata, callFunction, e1, e2, e3, e4]
  refine wpR_bindA (m := field (.ref c) 1) (wpAny_field hoc hdc hq (wpR_bindA (wpAny_pure ?_)))
  rw [hbind]
  refine wpR_bindA (wpAny_pure ?_)
  refine wpR_bindA (wpAny_newFunctionEnv_cells hk hkind fun env he s' x => ?_)
  subst he
  refine wpR_bindA (wpAny_enterFrame (hlim.keeps x.toInCall.keep) hroom (wpR_of (wpAny_pure ⟨rfl, rfl, codeR_func ?_⟩)))
  obtain ⟨h₁, tk, rfl, _⟩ := x.done
  obtain ⟨cells, N, Y⟩ := Cl.news (h₀ := s.heap) (Nat.le_refl _) fun n c' hm => ⟨(⟨x.cell, x.apart, x.above⟩ : Cl s.heap.objs.size _ h₁ _).cell n c' (lookup_of_mem_nodup (cellsFrom_names scope.names 0 (s.heap.objs.size + 1) [] [] rfl ▸ hnd) hm), x.above n c' hm⟩
  exact h h₁ tk cells ⟨x.toInCall.ns, x.toInCall.keep, x.toInCall.fresh⟩ N Y
end
end Mine
namespace Mine
open PySem.Calls
section
variable {M : Model} {A : Around} {E : Value → Shared → Prop} {s : Shared} {env : Env}
theorem wpR_callWith_type1 {pos : Pos} {T : String} {t : Sem Value} {Q : Value → Shared → Prop} (h : wpAny M A t (fun v s₁ => wpR M A (call (.type T) [v]) Q E s₁) E s) :
    wpR M A (callWith pos (.type T) [] [(false, t)] []) Q E s := by
  unfold callWith
  refine wpR_bindA (wpAny_holding (evalArgs_plain (spliced_cons (wpAny_mono h (fun v s₁ h₁ => spliced_nil ?_) fun _ _ x => x))))
  refine wpR_bindA (wpAny_standAt ?_)
  simp only [List.any_cons, List.any_nil, Bool.or_false]
  refine wpR_bindA (wpAny_pure ?_)
  exact wpR_bind (wpR_mono h₁ (fun r s₂ hr => wpR_of (wpAny_bind (wpAny_holding (wpAny_point (wpAny_pure hr))))) fun _ _ x => x)
theorem wpR_Call_Name1 {x : Str} {p pos : Pos} {e : Expr} {t : Sem Value} {Q : Value → Shared → Prop} (ht : backTo pos (starEach [e] env) = [(false, t)])
    (h : wpAny M A (eval (.Name x p) env) (fun f s₁ => wpR M A (callWith pos f [] [(false, t)] []) Q E s₁) E s) : wpR M A (eval (.Call (.Name x p) [e] [] pos) env) Q E s := by
  rw [← ht] at h
  exact wpR_bindA h
theorem wpR_Assign_Name {x : Str} {pos' pos : Pos} {value : Expr} {Q : Flow → Shared → Prop} (h : wpR M A (eval value env) (fun v s₁ => wpAny M A (storeName env x v) (fun _ => Q .next) E s₁) E s)
    (hs : swapsWith value (some (.Name x pos')) pos.line env = pure false := by rfl) : wpR M A (exec (.Assign [.Name x pos'] value pos) env) Q E s := fun Γ p hΓ ho => by
  simp only [exec_Assign_Name env x pos' value pos hs, Sem.wp_bind', Sem.wp_cmd_standAt, Sem.wp_bindName, Sem.wp_pure']
  exact Sem.wp_mono M Γ _ (fun v _ s₁ h₁ => h₁ Γ _ hΓ) (fun _ _ _ h' => h') _ _ (h Γ _ hΓ ho)
theorem wpR_execs {st : Stmt} {rest : List Stmt} {Q : Flow → Shared → Prop} (h : wpR M A (exec st env) (fun f s₁ => match f with | .next => wpR M A (execs rest env) Q E s₁ | f => Q f s₁) E s) : wpR M A (execs (st :: rest) env) Q E s := by
  show wpR M A (exec st env >>= fun f => match f with | .next => execs rest env | f => pure f) Q E s
  refine wpR_bind (wpR_mono h (fun f s₁ h₁ => ?_) fun _ _ x => x)
  cases f with
  | next => exact h₁
  | _ => exact wpR_of (wpAny_pure h₁)
theorem wpR_execsA {st : Stmt} {rest : List Stmt} {Q : Flow → Shared → Prop} (h : wpAny M A (exec st env) (fun f s₁ => match f with | .next => wpR M A (execs rest env) Q E s₁ | f => Q f s₁) E s) : wpR M A (execs (st :: rest) env) Q E s := wpR_execs (wpR_of h)
end
end Mine
namespace Mine
open PySem.Calls
def baObj (b : Array UInt8) : Obj := { cls := .type "bytearray", data := .bytearray b }
theorem ba_slot_len : Slot "bytearray" "__len__" "bytearray.__len__" :=
  .of (owner := "bytearray") (n := "__len__") (by rw [typeLookup_type, builtinLookup_eq_fast]; kernel_rfl) (by decide +kernel) (by decide +kernel) (by decide +kernel)
    (by first | exact .inl (by decide +kernel) | exact .inr (by decide +kernel)) ba_sub
theorem ba_slot_setitem : Slot "bytearray" "__setitem__" "bytearray.__setitem__" :=
  .of (owner := "bytearray") (n := "__setitem__") (by rw [typeLookup_type, builtinLookup_eq_fast]; kernel_rfl) (by decide +kernel) (by decide +kernel) (by decide +kernel)
    (by first | exact .inl (by decide +kernel) | exact .inr (by decide +kernel)) ba_sub
theorem ba_slot_buffer : Slot "bytearray" "__buffer__" "bytearray.__buffer__" :=
  .of (owner := "bytearray") (n := "__buffer__") (by rw [typeLookup_type, builtinLookup_eq_fast]; kernel_rfl) (by decide +kernel) (by decide +kernel) (by decide +kernel)
    (by first | exact .inl (by decide +kernel) | exact .inr (by decide +kernel)) ba_sub
theorem ba_entry_len : entryFor table "bytearray.__len__" = some Builtin.«bytearray.__len__» := entryFor_of_tree (by kernel_rfl)
theorem ba_entry_setitem : entryFor table "bytearray.__setitem__" = some Builtin.«bytearray.__setitem__» := entryFor_of_tree (by kernel_rfl)
theorem ba_args_len (a : Value) : argsOk "bytearray.__len__" ⟨[a], []⟩ := by unfold argsOk; kernel_rfl
theorem ba_args_setitem (a b c : Value) : argsOk "bytearray.__setitem__" ⟨[a, b, c], []⟩ := by unfold argsOk; kernel_rfl
theorem ba_no_bytes : typeLookup (.type "bytearray") "__bytes__" = pure none := by rw [typeLookup_type, builtinLookup_eq_fast]; kernel_rfl
theorem ba_no_index : typeLookup (.type "bytearray") "__index__" = pure none := by rw [typeLookup_type, builtinLookup_eq_fast]; kernel_rfl
section
variable {prog : Program} {w : World} {A : Around} {E : Value → Shared → Prop} {s : Shared} {h₀ : Heap} {L : Addr} {m : Str → Option Value} {news : List (Addr × Obj)} {a : Addr} {b : Array UInt8}
theorem bytearray_N {t : Tok} {Q : Value → Shared → Prop} (F : Fr h₀ L s.heap m) (N : News h₀ L s.heap news) (hg : A.guards = some []) (hb : b.size ≤ sizeLine)
    (h : ∀ a h' tk, Fr h₀ L h' m → News h₀ L h' ((a, baObj b) :: news) → (∀ p ∈ news, p.1 < a) → Q (.ref a) { s with heap := h', toks := tk }) :
    wpR (model prog w) A (call (.type "bytearray") [.bytes b t]) Q E s :=
  wpR_bytearray hg hb fun tk => h _ _ tk (F.push _) (News.push F N _) fun p hp => Heap.lt_size (N p hp).1
theorem ba_type (ho : s.heap.get? a = some (baObj b)) : s.TypeIs (.ref a) "bytearray" := ⟨_, ho, rfl⟩
theorem ba_payload {Q : Array UInt8 → Shared → Prop} (ho : s.heap.get? a = some (baObj b)) (h : Q b s) : wpAny (model prog w) A (Builtin.Bytes.payload (.ref a)) Q E s := by
  unfold Builtin.Bytes.payload Builtin.Bytes.payload?
  exact wpAny_bind (wpAny_bind (wpAny_load ho (wpAny_pure (wpAny_pure h))))
theorem len_ba {Q : Value → Shared → Prop} (ho : s.heap.get? a = some (baObj b)) (hfit : b.size ≤ 1000000) (h : ∀ t k, Q (.int b.size t) { s with toks := k }) : wpAny (model prog w) A (call (.builtin "len") [.ref a]) Q E s := by
  refine call_function_entry kind_len plain_len entry_len (args_len1 _) ?_
  unfold Builtin.«len»
  refine wpAny_bind (m := oneArg "len" _) (wpAny_pure ?_)
  refine wpAny_bind (m := callSpecial? (.ref a) (Str.ofString "__len__")) (wpAny_callSpecial?_slot (name := Str.ofString "__len__") (ba_type ho) ba_slot_len
    (wpAny_call_entry ba_slot_len (ba_type ho) ba_entry_len ?_ (ba_args_len _)))
  show wpAny _ _ (do retInt (← Builtin.Bytes.payload (.ref a)).size) _ _ s
  refine wpAny_bind (ba_payload ho (wpAny_bind (wpAny_mkInt (wpAny_pure ⟨_, rfl, ?_⟩))))
  refine wpAny_bind (wpAny_holding (wpAny_pure ?_))
  refine wpAny_bind (wpAny_letGo ?_)
  show wpAny _ _ (if ((b.size : Nat) : Int) < 0 then _ else _) _ _ _
  rw [if_neg (by omega)]
  show wpAny _ _ (if ((b.size : Nat) : Int) ≥ 2 ^ 63 then _ else _) _ _ _
  rw [if_neg (by omega)]
  exact wpAny_bind (wpAny_mkInt (wpAny_pure ⟨_, rfl, h _ _⟩))
theorem setitem_ba {k v : Int} {t u : Tok} {Q : Unit → Shared → Prop} (ho : s.heap.get? a = some (baObj b)) (hb : b.size ≤ 1000000) (h0 : 0 ≤ k) (h1 : k < b.size) (v0 : 0 ≤ v) (v1 : v < 256)
    (h : Q () { s with heap := s.heap.update a (Obj.mapBytearray fun x => x.setIfInBounds k.toNat v.toNat.toUInt8) }) : wpAny (model prog w) A (setItem (.ref a) (.int k t) (.int v u)) Q E s := by
  unfold setItem
  refine wpAny_holding ?_
  refine wpAny_bind (wpAny_sequenceKey (ba_type ho) (by decide) ?_)
  refine wpAny_bind (wpAny_callSpecial?_slot (name := Str.ofString "__setitem__") (ba_type ho) ba_slot_setitem
    (wpAny_call_entry ba_slot_setitem (ba_type ho) ba_entry_setitem ?_ (ba_args_setitem _ _ _)))
  show wpAny _ _ (Builtin.Bytes.subscript? (.int k t) >>= _) _ _ s
  unfold Builtin.Bytes.subscript?
  refine wpAny_bind (wpAny_bind (wpAny_specialOf (T := "int") (typeIs_int _ _ _) F.slot_int_index.lookup ?_))
  rw [if_neg (by decide)]
  refine wpAny_bind (wpAny_of_eq rfl ?_)
  rw [if_neg (by simp only [Builtin.Bytes.fitsIndex, Bool.not_eq_true', Bool.and_eq_false_iff, decide_eq_false_iff_not]; omega)]
  refine wpAny_pure ?_
  show wpAny _ _ (Builtin.Bytes.byteValue (.int v u) >>= _) _ _ s
  unfold Builtin.Bytes.byteValue
  refine wpAny_bind (wpAny_bind (wpAny_of_eq rfl ?_))
  rw [if_neg (by simp only [Bool.or_eq_true, decide_eq_true_eq]; omega)]
  refine wpAny_pure ?_
  refine wpAny_bind (ba_payload ho ?_)
  have e : seqIndex? k b.size = some k.toNat := by
    have h2 : ¬ k < 0 := by omega
    simp [seqIndex?, h2, h0, h1]
  rw [e]
  refine wpAny_bind (ba_write ho rfl ?_ ?_)
  · rw [Array.size_setIfInBounds, sizeLine_eq]; omega
  exact wpAny_bind (wpAny_pure (wpAny_pure ⟨_, rfl, wpAny_pure h⟩))
end
end Mine
namespace Mine
open PySem.Calls
section
variable {prog : Program} {w : World} {A : Around} {E : Value → Shared → Prop} {s : Shared} {h₀ : Heap} {L : Addr} {m : Str → Option Value} {news : List (Addr × Obj)} {a : Addr} {b : Array UInt8}
theorem ba_own_buf {Q : Bool → Shared → Prop} (hT : s.TypeIs (.ref a) "bytearray") (h : Q true s) : wpAny (model prog w) A (Builtin.Bytes.slotIsOwn (.ref a) "__buffer__") Q E s := by
  unfold Builtin.Bytes.slotIsOwn
  refine wpAny_bind (wpAny_specialOf hT ba_slot_buffer.lookup ?_)
  split
  · rename_i hx; cases hx
  · rename_i id hx
    cases hx
    refine wpAny_ite ?_
    rw [if_neg (by decide +kernel)]
    have key : ∀ x : String, x = "bytearray" → ∀ Q' : Bool → Shared → Prop, Q' true s → wpAny (model prog w) A (isInstance (.ref a) (.type x)) Q' E s := fun x hx Q' h' => by subst hx; exact wpAny_isInstance hT ba_sub h'
    exact key _ (by decide +kernel) _ h
  · rename_i v hn hx; cases hx; exact absurd rfl (hn _)
theorem ba_buffer {id : String} {Q : Option (Array UInt8) → Shared → Prop} (ho : s.heap.get? a = some (baObj b)) (h : Q (some b) s) : wpAny (model prog w) A (Builtin.Bytes.buffer? id (.ref a) true) Q E s := by
  unfold Builtin.Bytes.buffer?
  refine wpAny_bind (wpAny_specialOf (ba_type ho) ba_slot_buffer.lookup ?_)
  dsimp only
  refine wpAny_bind (ba_own_buf (ba_type ho) ?_)
  rw [if_neg (by decide)]
  refine wpAny_bind (wpAny_specialOf (ba_type ho) ba_slot_buffer.lookup ?_)
  show wpAny _ _ (Builtin.Bytes.ownRelease (.ref a) >>= _) _ _ _
  refine wpAny_bind (ba_own_rel (ba_type ho) ?_)
  rw [if_neg (by decide)]
  exact wpAny_bind (ba_payload ho (wpAny_pure h))
theorem by_new_ba {Q : Value → Shared → Prop} (ho : s.heap.get? a = some (baObj b)) (hz : b.size ≤ sizeLine)
    (hQ : ∀ t k, Q (.bytes b t) { s with toks := k }) : codeAny (model prog w) A (.call (.builtin "bytes.__new__") ⟨[.type "bytes", .ref a], []⟩) (wants Q E) s := by
  refine codeAny_of_tree ?_
  show wpAny _ A.in1 (do checkBuiltinCall "bytes.__new__" ⟨[.type "bytes", .ref a], []⟩; again (.builtin "bytes.__new__" ⟨[.type "bytes", .ref a], []⟩)) _ _ s
  refine wpAny_bind (wpAny_of_eq (F.bm_newCall _) (wpAny_pure ⟨plainId_quiet F.bm_plain _, codeAny_builtin F.bm_entry ?_⟩))
  rw [Around.under_plainId F.bm_plain _]
  unfold Builtin.«bytes.__new__»
  refine wpAny_bind (wpAny_of_eq (a := true) rfl ?_)
  refine bm_if_false rfl ?_
  refine wpAny_bind (wpAny_of_eq F.bm_sub ?_)
  refine bm_if_false rfl ?_
  refine wpAny_bind (wpAny_of_eq (F.bm_bind _) ?_)
  refine wpAny_bind (wpAny_of_eq (a := ()) rfl ?_)
  refine wpAny_bind (wpAny_of_eq (a := ()) rfl ?_)
  refine bm_if_false rfl ?_
  refine wpAny_bind (wpAny_specialOf (ba_type ho) ba_no_bytes ?_)
  refine wpAny_bind (wpAny_bind ?_)
  show wpAny _ _ (load a >>= _) _ _ _
  refine wpAny_bind (wpAny_load ho ?_)
  refine wpAny_pure (wpAny_pure ?_)
  refine bm_if_false rfl ?_
  refine wpAny_bind (wpAny_specialOf (ba_type ho) ba_no_index ?_)
  refine bm_if_true rfl ?_
  refine wpAny_bind (ba_buffer ho ?_)
  refine wpAny_bind (wpAny_rule (wpAny_bind (wpAny_mkBytes ?_ hz)))
  show wpAny _ _ (if (Value.type "bytes" == Value.type "bytes") = true then _ else _) _ _ _
  refine bm_if_true (by decide) ?_
  first
    | exact wpAny_pure (hQ _ _)
    | exact wpAny_bind (wpAny_pure (wpAny_pure (hQ _ _)))
    | trace_state
theorem call_bytes_ba {Q : Value → Shared → Prop} (ho : s.heap.get? a = some (baObj b)) (hz : b.size ≤ sizeLine) (hQ : ∀ t k, Q (.bytes b t) { s with toks := k }) : wpAny (model prog w) A (call (.type "bytes") [.ref a]) Q E s := by
  refine callType_codes (Q₁ := fun obj s₁ => s₁.TypeIs obj "bytes" ∧ Q obj s₁) F.bm_called (F.bm_typeCall _) F.entry_object_init
    (by_new_ba ho hz fun t k => ⟨PySem.W.typeIs_bytes _ _ _, hQ t k⟩) fun obj s₁ h₁ => ?_
  exact ⟨h₁.1, F.args_object_init_2 obj _, object_init_meets F.bm_called.init.lookup F.bm_called.made (by decide) prog w A.in1 _ s₁ ⟨h₁.1, rfl, h₁.2⟩⟩
end
end Mine
namespace Mine
open PySem.Calls
section
variable {prog : Program} {w : World} {A : Around} {E : Value → Shared → Prop} {s : Shared} {h₀ : Heap} {L : Addr} {m : Str → Option Value} {news : List (Addr × Obj)} {a : Addr} {b : Array UInt8}
/-- a string of octets below 64, of at most 48 -/
def Oct (b : Array UInt8) : Prop := ∃ ls, KBw.bInts b = ls ∧ ls.length ≤ 48 ∧ ∀ c ∈ ls, 0 ≤ c ∧ c < 64
theorem Oct.size (o : Oct b) : b.size ≤ 48 := by
  obtain ⟨ls, h, l, _⟩ := o
  rw [← KBw.ints_length b, h]; exact l
theorem Oct.set {k : Nat} {v : Int} (o : Oct b) (v0 : 0 ≤ v) (v1 : v < 64) : Oct (b.setIfInBounds k v.toNat.toUInt8) := by
  obtain ⟨ls, rfl, l, h⟩ := o
  refine ⟨_, rfl, ?_, ?_⟩
  · rw [KBw.ints_length, Array.size_setIfInBounds, ← KBw.ints_length]; exact l
  · intro c hc
    unfold KBw.bInts at hc h
    rw [Array.toList_setIfInBounds] at hc
    obtain ⟨x, hx, rfl⟩ := List.mem_map.mp hc
    rcases List.mem_or_eq_of_mem_set hx with hx | hx
    · exact h _ (List.mem_map.mpr ⟨x, hx, rfl⟩)
    · rw [hx]
      have e : (v.toNat.toUInt8).toNat = v.toNat := by
        rw [Nat.toUInt8_eq, UInt8.toNat_ofNat']; omega
      rw [e]; omega
theorem setitem_N {k v : Int} {t u : Tok} {Q : Unit → Shared → Prop} (F : Fr h₀ L s.heap m) (N : News h₀ L s.heap ((a, baObj b) :: news)) (hlt : ∀ p ∈ news, p.1 < a) (hb : b.size ≤ 1000000) (h0 : 0 ≤ k) (h1 : k < b.size) (v0 : 0 ≤ v) (v1 : v < 256)
    (h : ∀ h', Fr h₀ L h' m → News h₀ L h' ((a, baObj (b.setIfInBounds k.toNat v.toNat.toUInt8)) :: news) → Q () { s with heap := h' }) : wpAny (model prog w) A (setItem (.ref a) (.int k t) (.int v u)) Q E s := by
  have z := N _ (.head _)
  refine setitem_ba z.1 hb h0 h1 v0 v1 (h _ (F.change (Heap.SameBut.update ..) z.2.1 z.2.2) ?_)
  intro p hp
  rcases List.mem_cons.mp hp with rfl | hp
  · exact ⟨Heap.get?_update_self _ z.1 rfl, z.2⟩
  · have y := N p (.tail _ hp)
    exact ⟨(Heap.get?_update_other _ _ (Nat.ne_of_gt (hlt p hp))).trans y.1, y.2⟩
def BaPost (h₀ : Heap) (L : Addr) (m : Str → Option Value) (a : Addr) (news : List (Addr × Obj)) (s : Shared) (fl : Flow) (s' : Shared) : Prop :=
  fl = .next ∧ ∃ b h' tk, Oct b ∧ Fr h₀ L h' m ∧ News h₀ L h' ((a, baObj b) :: news) ∧ s' = { s with heap := h', toks := tk }
theorem join_ba {M : Model} {env : Env} {st : Stmt} {rest : List Stmt} {Q : Flow → Shared → Prop} (F : Fr h₀ L s.heap m) (N : News h₀ L s.heap ((a, baObj b) :: news))
    (t : wpAny M A (exec st env) (BaPost h₀ L m a news s) E s)
    (k : ∀ b h' tk, Oct b → Fr h₀ L h' m → News h₀ L h' ((a, baObj b) :: news) → wpAny M A (execs rest env) Q E { s with heap := h', toks := tk }) : wpR M A (execs (st :: rest) env) Q E s := by
  refine wpR_execsA (wpAny_mono t (fun fl s' h => ?_) fun _ _ e => e)
  obtain ⟨rfl, b, h', tk, o, F', N', rfl⟩ := h
  exact wpR_of (k b h' tk o F' N')
end
end Mine
namespace Mine
/-! a rolled sum is that of the next window -/
theorem cons_of {us : List Int} {n : Nat} (h : n < us.length) : ∃ x r, us = x :: r ∧ n ≤ r.length := by
  cases us with
  | nil => exact absurd h (Nat.not_lt_zero _)
  | cons x r => exact ⟨x, r, rfl, Nat.le_of_lt_succ h⟩
theorem fm_sum {ks : List Int} {x : Int} (h : x = ofsum ks) : Int.fmod x 2147483647 = ofsum ks := by
  rw [h]; exact fm (ofsum_range ks).1 (ofsum_range ks).2
theorem roll2 {x0 x1 x2 : Int} : (pol 0 [x0, x1] - (x0 + 1) * 263) * 263 + x2 + 1 = pol 0 [x1, x2] := by
  simp only [pol, List.foldl_cons, List.foldl_nil]; omega
theorem roll3 {x0 x1 x2 x3 : Int} : (pol 0 [x0, x1, x2] - (x0 + 1) * 69169) * 263 + x3 + 1 = pol 0 [x1, x2, x3] := by
  simp only [pol, List.foldl_cons, List.foldl_nil]; omega
theorem roll4 {x0 x1 x2 x3 x4 : Int} : (pol 0 [x0, x1, x2, x3] - (x0 + 1) * 18191447) * 263 + x4 + 1 = pol 0 [x1, x2, x3, x4] := by
  simp only [pol, List.foldl_cons, List.foldl_nil]; omega
theorem rolled_us {us : List Int} {b : Int} (hb : 2 ≤ b ∧ b ≤ 4) (hs : ∀ k ∈ us, small k) (h : b < us.length) :
    Int.fmod ((ofsum (us.take b.toNat) - (us.getD 0 0 + 1) * wpow (b - 1).toNat) * 263 + us.getD b.toNat 0 + 1) 2147483647 = ofsum ((us.drop 1).take b.toNat) := by
  have hcase : b = 2 ∨ b = 3 ∨ b = 4 := by clear h hs; omega
  have hk : ∀ n m : Nat, ∀ k ∈ (us.drop n).take m, small k := fun n m k hk => hs k (List.mem_of_mem_drop (List.mem_of_mem_take hk))
  have hl : ∀ n m : Nat, m ≤ 4 → ((us.drop n).take m).length ≤ 4 := fun n m hm => Nat.le_trans (List.length_take_le _ _) hm
  have hk0 := hk 0; have hl0 := hl 0; have hk1 := hk 1; have hl1 := hl 1
  refine fm_sum ?_
  have hb4 : b.toNat ≤ 4 := by clear h hs; omega
  rw [← List.drop_zero (l := us), ofsum_pol (hk0 _) (hl0 _ hb4), List.drop_zero, ofsum_pol (hk1 _) (hl1 _ hb4)]
  clear hk hl hk0 hl0 hk1 hl1 hb4
  rcases hcase with rfl | rfl | rfl
  · obtain ⟨x0, r, rfl, g0⟩ := cons_of (Int.ofNat_lt.mp h); clear h
    obtain ⟨x1, r, rfl, g1⟩ := cons_of g0
    obtain ⟨x2, r, rfl, g2⟩ := cons_of g1
    exact roll2
  · obtain ⟨x0, r, rfl, g0⟩ := cons_of (Int.ofNat_lt.mp h); clear h
    obtain ⟨x1, r, rfl, g1⟩ := cons_of g0
    obtain ⟨x2, r, rfl, g2⟩ := cons_of g1
    obtain ⟨x3, r, rfl, g3⟩ := cons_of g2
    exact roll3
  · obtain ⟨x0, r, rfl, g0⟩ := cons_of (Int.ofNat_lt.mp h); clear h
    obtain ⟨x1, r, rfl, g1⟩ := cons_of g0
    obtain ⟨x2, r, rfl, g2⟩ := cons_of g1
    obtain ⟨x3, r, rfl, g3⟩ := cons_of g2
    obtain ⟨x4, r, rfl, g4⟩ := cons_of g3
    exact roll4
theorem getD_drop (l : List Int) (i j : Nat) : (l.drop i).getD j 0 = l.getD (i + j) 0 := by
  rw [List.getD_eq_getElem?_getD, List.getD_eq_getElem?_getD, List.getElem?_drop]
theorem rolled_law {ts : List Int} {b i : Int} (hb : 2 ≤ b ∧ b ≤ 4) (hs : ∀ k ∈ ts, small k) (hi : 0 ≤ i) (h : i + b < ts.length) :
    Int.fmod ((ofsum ((ts.drop i.toNat).take b.toNat) - (ts.getD i.toNat 0 + 1) * wpow (b - 1).toNat) * 263 + ts.getD (i + b).toNat 0 + 1) 2147483647 = ofsum ((ts.drop (i + 1).toNat).take b.toNat) := by
  have h' := rolled_us (us := ts.drop i.toNat) hb (fun k hk => hs k (List.mem_of_mem_drop hk)) (by rw [List.length_drop]; omega)
  rw [getD_drop, getD_drop, List.drop_drop, Nat.add_zero] at h'
  rw [show i.toNat + b.toNat = (i + b).toNat from by omega, show i.toNat + 1 = (i + 1).toNat from by omega] at h'
  exact h'
/-! likeness of blocks -/
theorem cpl_le : ∀ (xs ys : List Int), cpl xs ys ≤ ys.length ∧ cpl xs ys ≤ xs.length
  | [], _ => by simp [cpl]
  | _ :: _, [] => by simp [cpl]
  | a :: r, b :: q => by
    have := cpl_le r q
    unfold cpl
    split <;> simp only [List.length_cons] <;> omega
theorem cpl_ge : ∀ (n : Nat) (xs ys : List Int), xs.take n = ys.take n → n ≤ xs.length → n ≤ ys.length → n ≤ cpl xs ys
  | 0, _, _, _, _, _ => Nat.zero_le _
  | n + 1, [], _, _, h, _ => by simp at h
  | n + 1, _ :: _, [], _, _, h => by simp at h
  | n + 1, a :: r, b :: q, e, h1, h2 => by
    rw [List.take_succ_cons, List.take_succ_cons] at e
    obtain ⟨e0, e1⟩ := List.cons.inj e
    have := cpl_ge n r q e1 (by simpa using h1) (by simpa using h2)
    unfold cpl
    rw [if_pos e0]; omega
def like (ks ts : List Int) (a p : Int) : Int := ((cpl (ks.drop p.toNat) (ts.drop a.toNat) : Nat) : Int)
/-- the first longest of all -/
theorem lng_none {ks ts : List Int} {a b : Int} : ∀ {ls : List Int} {best : Int × Int}, (∀ p ∈ ls, like ks ts a p ≤ best.2) → lng ks ts a b ls best = best
  | [], best, _ => rfl
  | p :: r, best, h => by
    have h1 := h p (.head _)
    unfold like at h1
    unfold lng
    rw [if_neg (by omega)]
    exact lng_none fun q hq => h q (.tail _ hq)
theorem lng_max {ks ts : List Int} {a b : Int} (ha : 0 ≤ a ∧ a ≤ ts.length) {m : Int} : ∀ {ls : List Int} {best : Int × Int}, (∀ p ∈ ls, b ≤ like ks ts a p) → best.2 < m → m ∈ ls.map (like ks ts a) → (∀ x ∈ ls.map (like ks ts a), x ≤ m) →
    lng ks ts a b ls best = (ls.getD ((ls.map (like ks ts a)).idxOf m) 0, m)
  | [], best, _, _, hm, _ => nomatch hm
  | p :: r, best, hb, hlt, hm, hx => by
    have h1 := hb p (.head _)
    have h2 := hx _ (List.mem_map.mpr ⟨p, .head _, rfl⟩)
    have hle := (cpl_le (ks.drop p.toNat) (ts.drop a.toNat)).1
    rw [List.length_drop] at hle
    rw [List.map_cons, List.idxOf_cons]
    by_cases e : like ks ts a p = m
    · rw [show (like ks ts a p == m) = true from by simpa using e]
      have hgo : lng ks ts a b r (p, like ks ts a p) = (p, like ks ts a p) := lng_none fun q hq => by
        have := hx _ (List.mem_map.mpr ⟨q, .tail _ hq, rfl⟩)
        rw [e]; exact this
      have e2 := e
      unfold like at h1 e2 hgo
      unfold lng
      rw [if_pos ⟨h1, by omega⟩, hgo, ite_self, e2]
      rfl
    · rw [show (like ks ts a p == m) = false from by simpa using e]
      have hm' : m ∈ r.map (like ks ts a) := by
        rw [List.map_cons] at hm
        rcases List.mem_cons.mp hm with h | h
        · exact absurd h.symm e
        · exact h
      have hb' : ∀ q ∈ r, b ≤ like ks ts a q := fun q hq => hb q (.tail _ hq)
      have hx' : ∀ x ∈ r.map (like ks ts a), x ≤ m := fun x hx2 => hx x (by rw [List.map_cons]; exact .tail _ hx2)
      have hnot : ¬ a + (cpl (ks.drop p.toNat) (ts.drop a.toNat) : Nat) = ts.length := by
        intro h
        obtain ⟨q, _, hq⟩ := List.mem_map.mp hm'
        have hq2 := (cpl_le (ks.drop q.toNat) (ts.drop a.toNat)).1
        rw [List.length_drop] at hq2
        unfold like at hq e h2
        omega
      rw [cond_false, List.getD_cons_succ]
      unfold lng
      split
      · exact lng_max ha hb' (by show like ks ts a p < m; omega) hm' hx'
      · exact lng_max ha hb' hlt hm' hx'
end Mine
namespace Mine
section
variable {O T : Array UInt8} {ks ts : List Int} {b mo i : Int}
theorem ib_bints (h : KBw.bInts O = ks) : ib O.toList = ks := h
theorem win_is (hT : KBw.bInts T = ts) : ib (pc T.toList b i) = (ts.drop i.toNat).take b.toNat := by
  rw [← ib_bints hT]; unfold pc ib; rw [List.map_take, List.map_drop]
theorem pp_dd (hO : KBw.bInts O = ks) (hb : 2 ≤ b ∧ b ≤ 4) (hs : ∀ k ∈ ks, small k) :
    (∀ j : Nat, j < nbk ks.length b → (j : Int) * b + b ≤ O.toList.length) ∧ PP ks b (nbk ks.length b) = (DD O.toList b (nbk ks.length b)).map keyed := by
  have hDs : ∀ j : Nat, j < nbk ks.length b → (j : Int) * b + b ≤ O.toList.length := fun j hj => by
    have := nbk_lt (len := ks.length) (b := b) (by omega) hj
    rw [← hO] at this
    simpa [KBw.bInts] using this
  refine ⟨hDs, ?_⟩
  have hh := PP_DD (l := O.toList) ⟨by omega, hb.2⟩ ((ib_bints hO).symm ▸ hs) hDs _ (Nat.le_refl _)
  rw [ib_bints hO] at hh; exact hh
theorem turn_absent (hO : KBw.bInts O = ks) (hT : KBw.bInts T = ts) (hb : 2 ≤ b ∧ b ≤ 4) (hs : ∀ k ∈ ks, small k) (ht : ∀ k ∈ ts, small k) (hi : 0 ≤ i) (hit : i + b ≤ ts.length)
    (hf : ((DD O.toList b (nbk ks.length b)).find? fun q => q.1 = pc T.toList b i) = none) {tl : List (Addr × Obj)} {kvs : List (Int × Value)} (hD : DL tl kvs ((PP ks b (nbk ks.length b)).map fun q => (q.1, cap mo q.2))) :
    valueAt kvs (ofsum ((ts.drop i.toNat).take b.toNat)) = none := by
  obtain ⟨hDs, hPP⟩ := pp_dd hO hb hs
  rcases hD.look (ofsum ((ts.drop i.toNat).take b.toNat)) with ⟨h, _⟩ | ⟨_, _, _, xs, _, _, _, h⟩
  · exact h
  exfalso
  have h1 := List.mem_of_find?_eq_some h
  rw [hPP, List.map_map] at h1
  obtain ⟨q, hq, e⟩ := List.mem_map.mp h1
  have e1 : ofsum (ib q.1) = ofsum ((ts.drop i.toNat).take b.toNat) := congrArg Prod.fst e
  obtain ⟨j, hj, hqj⟩ := DD_ok hDs _ (Nat.le_refl _) q hq
  have hlen := pc_len (l := O.toList) (b := b) (j := j) (by omega) hj
  rw [← hqj] at hlen
  have hq1 : ∀ k ∈ ib q.1, small k := by
    intro k hk
    obtain ⟨c, hc, rfl⟩ := List.mem_map.mp hk
    rw [hqj] at hc
    exact hs _ ((ib_bints hO) ▸ List.mem_map.mpr ⟨c, pc_sub c hc, rfl⟩)
  have hw1 : ∀ k ∈ (ts.drop i.toNat).take b.toNat, small k := fun k hk => ht k (List.mem_of_mem_drop (List.mem_of_mem_take hk))
  have hwl : ((ts.drop i.toNat).take b.toNat).length = b.toNat := by rw [List.length_take, List.length_drop]; omega
  have hql : (ib q.1).length = q.1.length := by unfold ib; rw [List.length_map]
  have e2 : ib q.1 = (ts.drop i.toNat).take b.toNat := ofsum_inj hq1 hw1 (by omega) (by omega) e1
  rw [← win_is hT] at e2
  have := List.find?_eq_none.mp hf q hq
  exact this (by simpa using ib_inj e2)
theorem turn_there (hO : KBw.bInts O = ks) (hT : KBw.bInts T = ts) (hb : 2 ≤ b ∧ b ≤ 4) (hs : ∀ k ∈ ks, small k) (hmo : 1 ≤ mo) (hi : 0 ≤ i) (hit : i + b ≤ ts.length) {xs : List Int}
    (hf : ((DD O.toList b (nbk ks.length b)).find? fun q => q.1 = pc T.toList b i) = some (pc T.toList b i, xs)) :
    (0 ≤ xs.getD 0 0 ∧ xs.getD 0 0 + b ≤ ks.length ∧ 0 < xs.length) ∧ ofsum ((ks.drop (xs.getD 0 0).toNat).take b.toNat) = ofsum ((ts.drop i.toNat).take b.toNat) ∧
      (∀ p ∈ cap mo xs, 0 ≤ p ∧ p + b ≤ ks.length ∧ b ≤ like ks ts i p) ∧ cap mo xs ≠ [] ∧ xs.length ≤ nbk ks.length b ∧ ∃ j : Nat, ((PP ks b (nbk ks.length b)).map fun q => (q.1, cap mo q.2))[j]? = some (ofsum ((ts.drop i.toNat).take b.toNat), cap mo xs) := by
  obtain ⟨hDs, hPP⟩ := pp_dd hO hb hs
  have hm := List.mem_of_find?_eq_some hf
  have hb1 : 1 ≤ b := by omega
  have hpl := DD_plok hb1 _ _ hm
  have hks : (O.toList.length : Int) = ks.length := by rw [← ib_bints hO]; unfold ib; rw [List.length_map]
  have hfst := plok_first hb1 hpl hDs
  have hsum := dsum_key hpl
  rw [ib_bints hO] at hsum
  dsimp only at hfst hsum
  rw [win_is hT] at hsum
  rw [hks] at hfst
  refine ⟨hfst, hsum, ?_, ?_, DD_len _ _ hm, ?_⟩
  · intro p hp
    obtain ⟨j, hj, rfl, e⟩ := hpl.1 p (cap_sub hmo p hp)
    have h0 : 0 ≤ (j : Int) * b := Int.mul_nonneg (by omega) (by omega)
    have h1 := hDs j hj
    rw [hks] at h1
    refine ⟨h0, h1, ?_⟩
    have e' : (ks.drop ((j : Int) * b).toNat).take b.toNat = (ts.drop i.toNat).take b.toNat := by
      rw [← win_is hT, ← win_is hO]; exact congrArg ib e
    have := cpl_ge b.toNat _ _ e' (by rw [List.length_drop]; omega) (by rw [List.length_drop]; omega)
    unfold like; omega
  · exact (cap_head hmo hpl.2.2).2
  · obtain ⟨j, hj⟩ := List.getElem?_of_mem hm
    refine ⟨j, ?_⟩
    rw [hPP, List.map_map, List.getElem?_map, hj]
    simp only [Option.map_some, Function.comp, keyed]
    rw [win_is hT]
end
end Mine
namespace Mine
theorem kf_ints_of : ∀ {vs : List Value} {ns : List Int}, IntsAre vs ns → kf_ints vs = true
  | _, _, .nil => rfl
  | _, _, .cons _ _ r => by
    have := kf_ints_of r
    simp_all [kf_ints]
theorem kf_at_of {k : Int} : ∀ {vs : List Value} {ns : List Int}, IntsAre vs ns → k ∈ ns → kf_at k vs = some (ns.idxOf k)
  | _, _, .nil, h => nomatch h
  | _, _, .cons n t (vs := vs) (ns := ns) r, h => by
    rw [List.idxOf_cons]
    by_cases e : n = k
    · subst e
      rw [show (n == n) = true from by simp]
      show cond (isInt n (.int n t)) _ _ = _
      rw [show isInt n (.int n t) = true from by simp [isInt]]
      rfl
    · have hm : k ∈ ns := by
        rcases List.mem_cons.mp h with h | h
        · exact absurd h.symm e
        · exact h
      have := kf_at_of r hm
      rw [show (n == k) = false from by simpa using e]
      show cond (isInt k (.int n t)) _ (match kf_at k vs with | some j => some (j + 1) | none => none) = _
      rw [this, show isInt k (.int n t) = false from by simp [isInt]; (first | exact e | exact fun h => e h.symm | omega)]
      rfl
theorem index_ints {prog : Program} {w : World} {A : Around} {E : Value → Shared → Prop} {s : Shared} {h₀ : Heap} {L D : Addr} {news : List (Addr × Obj)} {vs : List Value} {ns : List Int} {c : Nat} {k : Int} {t : Tok} {Q : Value → Shared → Prop} (N : News h₀ L s.heap news) (hm : (D, listOf vs.toArray c) ∈ news) (hi : IntsAre vs ns) (hl : vs.length ≤ 1000) (hk : k ∈ ns)
    (h : ∀ t k', Q (.int (ns.idxOf k : Nat) t) { s with toks := k' }) : wpAny (model prog w) A (call (.builtin "list.index") [.ref D, .int k t]) Q E s :=
  kf_index N hm (kf_ints_of (vs := vs) hi) (kf_at_of hi hk) rfl (by rw [sizeLine_eq]; exact Nat.le_trans hl (by decide)) (h _ _)
theorem first_max {ks ts : List Int} {a b M p q : Int} {ls : List Int} (ha : 0 ≤ a ∧ a ≤ ts.length) (hb : 2 ≤ b ∧ b ≤ 4) (h : ∀ p ∈ ls, b ≤ like ks ts a p) (hM : M ∈ ls.map (like ks ts a)) (hx : ∀ x, x ∈ ls.map (like ks ts a) → x ≤ M) (hpq : (p, q) = lng ks ts a b ls (0, 0)) :
    p = ls.getD (((ls.map (like ks ts a)).idxOf M : Nat) : Int).toNat 0 ∧ q = M ∧ (((ls.map (like ks ts a)).idxOf M : Nat) : Int) < ls.length := by
  obtain ⟨r, hr, e⟩ := List.mem_map.mp hM
  have h0 := h r hr
  rw [lng_max ha h (by show (0 : Int) < M; omega) hM hx, Prod.mk.injEq] at hpq
  have hlt : (ls.map (like ks ts a)).idxOf M < (ls.map (like ks ts a)).length := List.idxOf_lt_length_iff.mpr hM
  rw [List.length_map] at hlt
  exact ⟨hpq.1, hpq.2, by omega⟩
end Mine
namespace Mine
set_option maxRecDepth 1000000
theorem enterR {M : Model} {A : Around} {s : Shared} {f : Value} {pos : List Value} {kw : List (PySem.Str × Value)} {c : ClaimW} {cl : PySem.Str → Option Addr} {mean : ExcName → Option Value} {args : List WData} {s₁ : Shared}
    (h : codeR M A (.call f ⟨pos, kw⟩) (GoodW c cl mean args s₁) s) : wpR M A (PySem.call f pos kw) (fun v s' => GoodWG c cl mean args s₁ (.ok (.ret v)) s') (fun e s' => GoodWG c cl mean args s₁ (.error e) s') s :=
  wpR_call (codeR_mono h fun r s' g => by rcases g.1 with ⟨v, _, _, rfl, _⟩ | ⟨e, _, _, rfl, _⟩ <;> exact GoodW.toG g)
local macro_rules | `(tactic| walk_at $x:str) => if ["call ref"].contains x.getString then `(tactic| refine Hold.out ?_) else Lean.Macro.throwUnsupported
set_option maxHeartbeats 100000000 in
noncomputable def s1 : (P : Prop) ×' (Later P → PySem.Challenge.rw_pb0086_01.Holds) := by
  refine ⟨?P9, fun mineKa => hd ?main9⟩
  case main9 =>
    k_fill
    intro w s₀ s₁ mg mb G Y fa o pm cd doc dV kV ho hd hcd hD hmg hg args vals as hpre hlay hrd hwl hlo
    have KX := kIn_of Y
    have X := (Ground.X G).1
    have V := (Ground.X G).2
    refine Ground.open G ?_
    intro T B D TE TW
    try (refine guard_noD D (by decide +kernel) ?_; clear D)
    obtain ⟨_, _, M⟩ := bmod_of_top T
    have TA := at_of_top T
    try (obtain ⟨_, _, he, B0⟩ := based_of_top T rfl hmg ho hd; have he' : cd = _ := he; subst he'; clear he)
    clear hmg
    wrow_args hpre hlay hrd hwl hlo
    all_goals (
      refine wpAny_runC (enterR ?_) ?_
      rotate_left
      · exact GoodW.toG ⟨.inl ⟨_, .bool true, [], rfl, raisesW_false (by wrow_none_raised), .bool true, by wrow_post, unshared_nil⟩, fun _ _ e => e, rfl, hg⟩
      w_top on
      have K0 := below_caller (Top.heap T)
      have he := Dflts.none hD rfl; subst he; have he := Dflts.noKw hD; subst he
      refine codeR_cells (by decide) ho (fd_plain hd) (Top.nolimit T) hcd rfl (kinds_of (by kinds_ok)) (by decide) fun h₁ tk₁ cells F N0 X0 => ?_
      cells_open X0
      clear hd TA
      k_drop
      skip)
    all_goals (try k_fold)
    rename_i oA oT oS lA lT lS
    obtain ⟨vcS, hcS⟩ : ∃ v, oS.data = .cell v := ⟨_, lS⟩
    obtain ⟨vcT, hcT⟩ : ∃ v, oT.data = .cell v := ⟨_, lT⟩
    obtain ⟨vcA, hcA⟩ : ∃ v, oA.data = .cell v := ⟨_, lA⟩
    clear lA lT lS X0
    refine wpR_execsA ?_
    k_steps
    refine wpR_execsA ?_
    k_steps
    rename List Int => sc
    generalize hbl : 2 + ((List.map (fun k' => ((if k' < 0 then -k' else k') : Int).fmod (10 ^ Int.toNat 6)) (List.take 9 sc) ++ [0]).getD (Int.toNat 0) 0).fmod 3 = bl at *
    generalize hcz : List.map (fun k' => ((if k' < 0 then -k' else k') : Int).fmod (10 ^ Int.toNat 6)) (List.take 9 sc) = cz at *
    have hczr : ∀ c ∈ cz, 0 ≤ c ∧ c < 1000000 := by
      intro c hc
      rw [← hcz] at hc
      obtain ⟨k, _, rfl⟩ := List.mem_map.mp hc
      exact ⟨fmod_lo _ (by decide), fmod_hi _ (by decide)⟩
    have hczl : cz.length ≤ 9 := by rw [← hcz, List.length_map, List.length_take]; omega
    rename_i z1x1 z1x2 z1x3 z1x4 z1x5 z1x6 z1x7 z1x8 z1x9 z1x10 z1x11 z1x12 z1x13 z1x14 z1x15 z1x16 z1x17 z1x18 z1x19 z1x20 z1x21 z1x22 z1x23 z1x24 z1x25 z1x26 z1x27 z1x28 z1x29 z1x30 z1x31 z1x32 z1x33 z1x34 z1x35 z1x36 z1x37 z1x38 z1x39 z1x40 z1x41 z1x42 z1x43 z1x44 z1x45 z1x46 z1x47 z1x48 z1x49 z1x50 z1x51 z1x52 z1x53 z1x54 z1x55 z1x56 z1x57 z1x58
    clear h₁ tk₁ z1x25 z1x32 z1x38 z1x42 z1x44
    revert w s₀ s₁ mg mb G Y fa o pm doc ho hg KX X V T B TE TW z1x1 z1x2 M z1x3 z1x4 hcd sc z1x5 z1x6 z1x7 z1x8 z1x9 z1x10 z1x11 z1x12 z1x13 z1x14 z1x15 z1x16 z1x17 z1x18 z1x19 z1x20 z1x21 z1x22 K0 hD oA oT oS vcS hcS vcT hcT vcA hcA z1x23 z1x24 z1x26 z1x27 z1x28 z1x29 z1x30 z1x31 ys z1x33 z1x34 z1x35 z1x36 z1x37 z1x39 z1x40 z1x41 z1x43 z1x45 z1x46 z1x47 z1x48 z1x49 z1x50 z1x51 z1x52 z1x53 bl cz hcz z1x54 z1x55 z1x56 hbl z1x57 z1x58 hczr hczl
    exact mineKa.out
end Mine
namespace Mine
set_option maxRecDepth 1000000
theorem sum_rng : ∀ {l : List Int}, (∀ c ∈ l, 0 ≤ c ∧ c < 1000000) → 0 ≤ l.sum ∧ l.sum ≤ 1000000 * l.length
  | [], _ => by simp
  | a :: l, h => by
    have h1 := h a (.head _)
    have h2 := sum_rng (l := l) fun c hc => h c (.tail _ hc)
    rw [List.sum_cons, List.length_cons]
    omega
local macro_rules | `(tactic| walk_at "subscriptTail") => `(tactic| ((with_reducible show wpAny _ _ (subscriptTail (PySem.Expr.List _ _) _ (Value.ref _) (Value.int _ _)) _ _ _); refine Hold.out ?_))
local macro_rules | `(tactic| walk_at $x:str) => if ["call ref"].contains x.getString then `(tactic| refine Hold.out ?_) else Lean.Macro.throwUnsupported
set_option maxHeartbeats 100000000 in
noncomputable def s2 : (P : Prop) ×' (Later P → s1.1) := by
  refine ⟨?P9, fun mineKa => ?main9⟩
  case main9 =>
    w_top off
    intro w s₀ s₁ mg mb G Y fa o pm doc ho hg KX X V T B TE TW z1x1 z1x2 M z1x3 z1x4 hcd sc z1x5 z1x6 z1x7 z1x8 z1x9 z1x10 z1x11 z1x12 z1x13 z1x14 z1x15 z1x16 z1x17 z1x18 z1x19 z1x20 z1x21 z1x22 K0 hD oA oT oS vcS hcS vcT hcT vcA hcA z1x23 z1x24 z1x26 z1x27 z1x28 z1x29 z1x30 z1x31 ys z1x33 z1x34 z1x35 z1x36 z1x37 z1x39 z1x40 z1x41 z1x43 z1x45 z1x46 z1x47 z1x48 z1x49 z1x50 z1x51 z1x52 z1x53 bl cz hcz z1x54 z1x55 z1x56 hbl z1x57 z1x58 hczr hczl
    (revert KX; intro KX)
    rename News _ _ _ _ => zN
    have zN2 := cb_drop zN (fun p hp => .tail _ (.tail _ (.tail _ hp)))
    refine wpR_execsA ?_
    k_steps
    refine Hold.mk ?_
    have hcells : ∀ c ∈ List.drop 1 cz, 0 ≤ c ∧ c < 1000000 := fun c hc => hczr c (List.mem_of_mem_drop hc)
    have hcl : (List.drop 1 cz).length ≤ 8 := by rw [List.length_drop]; omega
    rename IntsAre _ (List.drop 1 cz) => hI1
    (rename News _ _ _ _ => nN; k_dflt (refine' CtrL.useL (ps := [_]) nN (c_source _ _ _ _ 0 _ hI1 hcells hcl) ?kM ?kB ?kF ?kX ?kT ?kK ?kd ?ku ?_; (case kM => exact List.forall_mem_cons.mpr ⟨by k_mem, (fun _ hp => nomatch hp)⟩); (case kB => k_asm); (case kF => k_asm); (case kX => k_asm); (case kT => k_asm); (case kK => first | exact rfl | assumption); (case kd => ktr_room); (case ku => ktr_units)); intro r9 tl9 h9 tk9 F9 N9 l9 o9; clear nN)
    obtain ⟨rfl, O, to, rfl, hOl, hOs⟩ := o9
    rw [List.append_nil] at N9
    k_steps
    refine Hold.mk ?_
    have hm0 : 0 ≤ (cz.sum).fmod 3 := fmod_lo _ (by decide)
    have hm3 : (cz.sum).fmod 3 < 3 := fmod_hi _ (by decide)
    rename News _ _ _ _ => zN5
    refine item_ints_any (ns := [64, 1, 2]) (isL_news zN5 (.head _)) (.cons _ _ (.cons _ _ (.cons _ _ .nil))) hm0 (by simp only [List.length_cons, List.length_nil]; omega) (by omega) ?_
    intro t0
    obtain ⟨mo, hmo⟩ : ∃ mo, ([64, 1, 2] : List Int).getD (cz.sum.fmod 3).toNat 0 = mo := ⟨_, rfl⟩
    have hmor : 1 ≤ mo ∧ mo ≤ 64 := by
      have h3 : cz.sum.fmod 3 = 0 ∨ cz.sum.fmod 3 = 1 ∨ cz.sum.fmod 3 = 2 := by omega
      rcases h3 with e | e | e <;> rw [e] at hmo <;> rw [← hmo] <;> decide
    rw [hmo]
    clear hmo hm0 hm3
    k_steps
    rename News _ _ _ _ => zN6
    have zN7 := cb_drop zN6 (fun p hp => .tail _ (.tail _ (.tail _ (.tail _ (.tail _ hp)))))
    have hbl' : 2 ≤ bl ∧ bl ≤ 4 := by
      have q1 := fmod_lo ((cz ++ [0]).getD (Int.toNat 0) 0) (n := 3) (by decide)
      have q2 := fmod_hi ((cz ++ [0]).getD (Int.toNat 0) 0) (n := 3) (by decide)
      rw [← hbl]; omega
    obtain ⟨wh, hwh⟩ : ∃ wh, cz.sum = wh := ⟨_, rfl⟩
    have hwr : 0 ≤ wh ∧ wh ≤ 9000000 := by
      have q := sum_rng hczr
      rw [hwh] at q
      omega
    obtain ⟨ks, hO⟩ : ∃ ks, KBw.bInts O = ks := ⟨_, rfl⟩
    rw [hO] at hOl hOs
    rename Fr _ _ _ _ => zF
    rw [hwh] at zF
    clear zN6
    clear hbl hcz hwh hczr hczl hcells hcl hI1
    (try clear zN); (try clear zN2); (try clear zN5); (try clear l9)
    rename_i z2x1 z2x2 z2x3 z2x4 z2x5 z2x6 z2x7 z2x8 z2x9 z2x10 z2x11 z2x12 z2x13 z2x14 z2x15 z2x16 z2x17
    clear z1x23 z1x24 z1x26 z1x29 z1x31 ys z1x34 z1x36 z1x37 z1x39 z1x40 z1x41 z1x43 z1x45 z1x46 z1x48 z1x49 z1x50 z1x51 z1x52 z1x53 cz z1x54 z1x55 z1x56 z2x1 z2x2 z2x3 z2x4 z2x5 z2x6 h9 z2x7 z2x9 z2x10 z2x12
    revert w s₀ s₁ mg mb G Y fa o pm doc ho hg X V T B TE TW z1x1 z1x2 M z1x3 z1x4 hcd sc z1x5 z1x6 z1x7 z1x8 z1x9 z1x10 z1x11 z1x12 z1x13 z1x14 z1x15 z1x16 z1x17 z1x18 z1x19 z1x20 z1x21 z1x22 K0 hD oA oT oS vcS hcS vcT hcT vcA hcA z1x27 z1x28 z1x30 z1x33 z1x35 z1x47 bl KX tk9 O to z2x8 t0 mo hmor z2x11 z2x13 z2x14 z2x15 z2x16 z2x17 zN7 hbl' wh zF hwr ks hOs hOl hO
    exact mineKa.out
end Mine
namespace Mine
set_option maxRecDepth 1000000
theorem tgt_facts {ks ls : List Int} {a b : Nat} (hOl : ks.length ≤ 24) (hOs : ∀ c ∈ ks, 0 ≤ c ∧ c < 64) (hls : List.take (ks.length - a) (List.drop a ks) ++ List.take b ks = ls) : ls.length ≤ 48 ∧ ∀ c ∈ ls, 0 ≤ c ∧ c < 64 := by
  subst hls
  refine ⟨?_, fun c hc => ?_⟩
  · rw [List.length_append, List.length_take, List.length_take, List.length_drop]; omega
  · rcases List.mem_append.mp hc with hc | hc
    · exact hOs c (List.mem_of_mem_drop (List.mem_of_mem_take hc))
    · exact hOs c (List.mem_of_mem_take hc)
theorem bytearray_M {prog : Program} {w : World} {A : Around} {E : Value → Shared → Prop} {s : Shared} {h₀ : Heap} {L : Addr} {m : Str → Option Value} {news : List (Addr × Obj)} {t : Tok} {Q : Value → Shared → Prop} {B₀ : Array UInt8} (F : Fr h₀ L s.heap m) (N : News h₀ L s.heap news) (hg : A.guards = some [])
    (hB : Oct B₀) (h : ∀ B a h' tk, Oct B → Fr h₀ L h' m → News h₀ L h' ((a, baObj B) :: news) → (∀ p ∈ news, p.1 < a) → Q (.ref a) { s with heap := h', toks := tk }) :
    wpR (model prog w) A (call (.type "bytearray") [.bytes B₀ t]) Q E s :=
  bytearray_N F N hg (by have := hB.size; rw [sizeLine_eq]; omega) fun a h' tk F' N' l => h _ a h' tk hB F' N' l
theorem lt3 {a b c d : Addr} {x y z : Obj} (h1 : @LT.lt Nat _ a d) (h2 : @LT.lt Nat _ b d) (h3 : @LT.lt Nat _ c d) : ∀ p ∈ [(a, x), (b, y), (c, z)], p.1 < d :=
  List.forall_mem_cons.mpr ⟨h1, List.forall_mem_cons.mpr ⟨h2, List.forall_mem_cons.mpr ⟨h3, fun _ h => nomatch h⟩⟩⟩
local macro_rules | `(tactic| walk_at "call builtin:len") => `(tactic| ((with_reducible show wpAny _ _ (call (Value.builtin "len") [Value.ref _]) _ _ _); refine Hold.out ?_))
local macro_rules | `(tactic| walk_at $x:str) => if ["call ref", "setItem"].contains x.getString then `(tactic| refine Hold.out ?_) else Lean.Macro.throwUnsupported
local macro_rules | `(tactic| walk_at $x:str) => if ["call type:bytes"].contains x.getString then `(tactic| refine Hold.out ?_) else Lean.Macro.throwUnsupported
set_option maxHeartbeats 100000000 in
noncomputable def s3 : (P : Prop) ×' (Later P → s2.1) := by
  refine ⟨?P9, fun mineKa => ?main9⟩
  case main9 =>
    w_top off
    intro w s₀ s₁ mg mb G Y fa o pm doc ho hg X V T B TE TW z1x1 z1x2 M z1x3 z1x4 hcd sc z1x5 z1x6 z1x7 z1x8 z1x9 z1x10 z1x11 z1x12 z1x13 z1x14 z1x15 z1x16 z1x17 z1x18 z1x19 z1x20 z1x21 z1x22 K0 hD oA oT oS vcS hcS vcT hcT vcA hcA z1x27 z1x28 z1x30 z1x33 z1x35 z1x47 bl KX tk9 O to z2x8 t0 mo hmor z2x11 z2x13 z2x14 z2x15 z2x16 z2x17 zN7 hbl' wh zF hwr ks hOs hOl hO
    (revert KX; intro KX)
    refine wpR_execs (wpR_Assign_Name (wpR_Call_Name1 rfl ?_) ?hs)
    case hs => rfl
    k_dflt (refine' nameX_B ?q3F ?q3X ?q3T ?q3e ?q3v ?q3n ?_ ?q3a ?q3b; (case q3F => k_asm); (case q3X => k_asm); (case q3T => k_asm); (case q3a => rfl); (case q3b => rfl); (case q3e => k_is); (case q3v => exact ba_boot); (case q3n => decide); k_whole)
    refine wpR_callWith_type1 ?_
    rw [if_neg Bool.false_ne_true]
    k_steps
    rename KBw.bInts (_ ++ _) = _ => hB0
    rename Fr _ _ _ _ => zF
    rename News _ _ _ _ => zN
    refine bytearray_M zF zN rfl ⟨_, hB0, tgt_facts hOl hOs rfl⟩ ?_
    intro B ab h9 tk9 hB F9 N9 l9
    clear zF
    (try clear hB0)
    k_lt l9
    k_steps
    dsimp only
    rename Fr _ _ _ _ => zF
    rename News _ _ _ _ => zN
    refine join_ba zF zN (wpAny_If ?_) ?_
    · k_steps
      refine Hold.mk ?_
      rename News _ _ _ _ => zN
      have hBz := hB.size
      refine len_ba (zN _ (.head _)).1 (by omega) ?_
      intro t k
      k_steps
      · refine Hold.mk ?_
        refine len_ba (zN _ (.head _)).1 (by omega) ?_
        intro t2 k2
        have hBp : (0 : Int) < (B.size : Int) := by omega
        k_steps
        refine Hold.mk ?_
        refine setitem_N zF zN (lt3 l9.1 l9.2.1 l9.2.2) (by omega) (fmod_lo _ hBp) (fmod_hi _ hBp) (fmod_lo _ (by decide)) (Int.lt_trans (fmod_hi _ (by decide)) (by decide)) ?_
        intro h10 F10 N10
        k_steps
        exact ⟨rfl, _, _, _, hB.set (fmod_lo _ (by decide)) (fmod_hi _ (by decide)), F10, N10, rfl⟩
      · exact ⟨rfl, B, _, _, hB, zF, zN, rfl⟩
    intro T h11 tk11 hT F11 N11
    clear zF hB
    k_steps
    refine Hold.mk ?_
    refine call_bytes_ba (N11 _ (.head _)).1 (by have := hT.size; rw [sizeLine_eq]; omega) ?_
    intro t12 k12
    k_steps
    refine Hold.mk ?_
    rename News _ _ _ _ => zN9
    have zN8 := cb_drop zN9 (fun p hp => .tail _ hp)
    clear zN9
    obtain ⟨ts, hT, hT1, hT2⟩ := hT
    (try clear hB0)
    rename_i z3x1 z3x2 z3x3 z3x4 z3x5 z3x6 z3x7 z3x8 z3x9 z3x10 z3x11 z3x12 z3x13 z3x14 z3x15 z3x16 z3x17 z3x18 z3x19 z3x20
    clear oT oS vcS hcS vcT hcT z3x3 z2x8 z2x11 z2x13 z2x14 z2x17 z3x4 z3x5 z3x6 z3x8 z3x9 z3x10 z3x12 z3x13 B ab h9 tk9 l9 z3x14 z3x15 z3x16 h11 tk11 k12
    revert w s₀ s₁ mg mb G Y fa o pm doc ho hg X V z3x1 z3x2 TE TW z1x1 z1x2 M z1x3 z1x4 hcd sc z1x5 z1x6 z1x7 z1x8 z1x9 z1x10 z1x11 z1x12 z1x13 z1x14 z1x15 z1x16 z1x17 z1x18 z1x19 z1x20 z1x21 z1x22 K0 hD oA vcA hcA z1x27 z1x28 z1x30 z1x33 z1x35 z1x47 bl O to t0 mo hmor z2x15 z2x16 hbl' wh hwr ks hOs hOl hO KX z3x7 z3x11 T t12 z3x17 z3x18 z3x19 z3x20 tk zN8 ts hT hT1 hT2
    exact mineKa.out
end Mine
namespace Mine
set_option maxRecDepth 1000000
section
variable {c1 c2 c3 a b c e dd x y t z u : Addr × Obj} {l l2 l3 : List (Addr × Obj)}
theorem q4_sub1 : ∀ p ∈ c1 :: c2 :: c3 :: a :: b :: c :: e :: dd :: x :: y :: l, p ∈ c1 :: c2 :: c3 :: a :: b :: c :: e :: dd :: (l ++ [x, y]) := by
  intro p hp; simp only [List.mem_cons, List.mem_append] at hp ⊢; grind
theorem q4_sub2 : ∀ p ∈ c1 :: c2 :: c3 :: a :: b :: c :: e :: dd :: x :: y :: z :: (l ++ l2), p ∈ c1 :: c2 :: c3 :: a :: b :: c :: e :: dd :: x :: y :: (l ++ (z :: l2)) := by
  intro p hp; simp only [List.mem_cons, List.mem_append] at hp ⊢; grind
theorem q4_sub3 : ∀ p ∈ c1 :: c2 :: c3 :: a :: b :: c :: e :: dd :: x :: y :: z :: u :: (l ++ (l2 ++ l3)), p ∈ c1 :: c2 :: c3 :: a :: b :: c :: e :: dd :: x :: y :: z :: ((l ++ l2) ++ (u :: l3)) := by
  intro p hp; simp only [List.mem_cons, List.mem_append] at hp ⊢; grind
theorem q4_in2 : ∀ p ∈ l2, p ∈ c1 :: c2 :: c3 :: a :: b :: c :: e :: dd :: x :: y :: z :: u :: (l ++ (l2 ++ l3)) := by
  intro p hp; simp only [List.mem_cons, List.mem_append]; grind
end
theorem ne_app {c : Addr} {l l2 : List (Addr × Obj)} (h : ∀ p ∈ l, p.1 ≠ c) (h2 : ∀ p ∈ l2, p.1 ≠ c) : ∀ p ∈ l ++ l2, p.1 ≠ c := fun p hp => (List.mem_append.mp hp).elim (h p) (h2 p)
local macro_rules | `(tactic| k_all) => `(tactic| assumption)
local macro_rules | `(tactic| walk_at $x:str) => if ["call ref"].contains x.getString then `(tactic| refine Hold.out ?_) else Lean.Macro.throwUnsupported
set_option maxHeartbeats 100000000 in
noncomputable def s4 : (P : Prop) ×' (Later P → s3.1) := by
  refine ⟨?P9, fun mineKa => ?main9⟩
  case main9 =>
    w_top off
    intro w s₀ s₁ mg mb G Y fa o pm doc ho hg X V z3x1 z3x2 TE TW z1x1 z1x2 M z1x3 z1x4 hcd sc z1x5 z1x6 z1x7 z1x8 z1x9 z1x10 z1x11 z1x12 z1x13 z1x14 z1x15 z1x16 z1x17 z1x18 z1x19 z1x20 z1x21 z1x22 K0 hD oA vcA hcA z1x27 z1x28 z1x30 z1x33 z1x35 z1x47 bl O to t0 mo hmor z2x15 z2x16 hbl' wh hwr ks hOs hOl hO KX z3x7 z3x11 T t12 z3x17 z3x18 z3x19 z3x20 tk zN8 ts hT hT1 hT2
    (revert KX; intro KX)
    have hmo2 : 1 ≤ mo ∧ mo ≤ 1000 := ⟨hmor.1, Int.le_trans hmor.2 (by decide)⟩
    have hbl2 : 1 ≤ bl ∧ bl < 1000 := ⟨Int.le_trans (by decide) hbl'.1, Int.lt_of_le_of_lt hbl'.2 (by decide)⟩
    have hks6 : ks.length ≤ 60 := Nat.le_trans hOl (by decide)
    have hks1 : ks.length ≤ 100 := Nat.le_trans hOl (by decide)
    (rename News _ _ _ _ => nN; k_dflt (refine' CtrL.useL (ps := []) nN (c_index w _ O ks bl mo _ _ _ hO hks6 hbl2 hmo2) ?kM ?kB ?kF ?kX ?kT ?kK ?kd ?ku ?_; (case kM => exact (by intro p hp; exact nomatch hp)); (case kB => k_asm); (case kF => k_asm); (case kX => k_asm); (case kT => k_asm); (case kK => first | exact rfl | assumption); (case kd => ktr_room); (case ku => ktr_units)); intro r9 tl9 h9 tk9 F9 N9 l9 o9; clear nN)
    obtain ⟨x, dx, n1, g1, g2, g3, g4, g5, k1, k2, k3, k4, k5, tb1, tu1, sx, sdx, n2, g6, g7, k6, k7, tb2, tw2, d, od, kvs, tl', rfl, rfl, dlo, hod, hDL⟩ := o9
    simp only [List.cons_append, List.nil_append] at N9
    have a1 := neN (l9 _ (.head _) _ (.head _))
    have a2 := neN (l9 _ (.head _) _ (.tail _ (.head _)))
    have a3 := neN (l9 _ (.head _) _ (.tail _ (.tail _ (.head _))))
    have a4 := neN (l9 _ (.head _) _ (.tail _ (.tail _ (.tail _ (.head _)))))
    have a5 := neN (l9 _ (.head _) _ (.tail _ (.tail _ (.tail _ (.tail _ (.head _))))))
    have aZ1 : ∀ p ∈ tl', p.1 ≠ s₁.heap.objs.size + 1 + 1 + 1 := fun p hp => Ne.symm (l9 _ (.head _) _ (.tail _ (.tail _ (.tail _ (.tail _ (.tail _ hp))))))
    clear l9
    k_steps
    refine Hold.mk ?_
    (rename News _ _ _ _ => nN; k_dflt (refine' CtrL.useL (ps := []) nN (c_sum w _ _ bl hbl2) ?kM ?kB ?kF ?kX ?kT ?kK ?kd ?ku ?_; (case kM => exact (by intro p hp; exact nomatch hp)); (case kB => k_asm); (case kF => k_asm); (case kX => k_asm); (case kT => k_asm); (case kK => first | exact rfl | assumption); (case kd => ktr_room); (case ku => ktr_units)); intro r9 tl9 h9 tk9 F9 N9 l9 o9; clear nN)
    obtain ⟨x2, dx2, n3, g8, g9, k8, k9, tb3, tw3, wt, rfl, hwt, rfl⟩ := o9
    simp only [List.cons_append, List.nil_append] at N9
    have a6 := neN (l9 _ (.head _) _ (.head _))
    have a7 := neN (l9 _ (.head _) _ (.tail _ (.head _)))
    have N9 := cb_drop N9 q4_sub1
    clear l9
    k_steps
    refine Hold.mk ?_
    rename News _ _ _ _ => zN9
    have zN8 := cb_drop zN9 (fun p hp => .tail _ hp)
    clear zN9
    (rename News _ _ _ _ => nN; k_dflt (refine' CtrL.useL (ps := [_, _, _, _]) nN (c_placed w _ x dx sx sdx _ _ _ _ _ _ _ _ _ _ _ _ _ _ _ _ _ _ _ _ bl mo _ O ks hO hks6 hbl2 hmo2) ?kM ?kB ?kF ?kX ?kT ?kK ?kd ?ku ?_; (case kM => exact List.forall_mem_cons.mpr ⟨by k_mem, List.forall_mem_cons.mpr ⟨by k_mem, List.forall_mem_cons.mpr ⟨by k_mem, List.forall_mem_cons.mpr ⟨by k_mem, (fun _ hp => nomatch hp)⟩⟩⟩⟩); (case kB => k_asm); (case kF => k_asm); (case kX => k_asm); (case kT => k_asm); (case kK => first | exact rfl | assumption); (case kd => ktr_room); (case ku => ktr_units)); intro r9 tl9 h9 tk9 F9 N9 l9 o9; clear nN)
    obtain ⟨d2, od2, kvs2, tl2, rfl, rfl, dlo2, hod2, hDL2⟩ := o9
    simp only [List.cons_append, List.nil_append] at N9
    have a8 := neN (l9 _ (.head _) _ (.head _))
    have aZ2 : ∀ p ∈ tl2, p.1 ≠ s₁.heap.objs.size + 1 + 1 + 1 := fun p hp => Ne.symm (l9 _ (.head _) _ (.tail _ hp))
    have N9 := cb_drop N9 q4_sub2
    clear l9
    k_steps
    refine Hold.mk ?_
    (rename News _ _ _ _ => nN; k_dflt (refine' CtrL.useL (ps := []) nN (c_blocks w _ O ks bl _ _ hO hks1 hbl2) ?kM ?kB ?kF ?kX ?kT ?kK ?kd ?ku ?_; (case kM => exact (by intro p hp; exact nomatch hp)); (case kB => k_asm); (case kF => k_asm); (case kX => k_asm); (case kT => k_asm); (case kK => first | exact rfl | assumption); (case kd => ktr_room); (case ku => ktr_units)); intro r9 tl9 h9 tk9 F9 N9 l9 o9; clear nN)
    obtain ⟨d3, od3, kvs3, btl, rfl, rfl, dlo3, hod3, hDL3⟩ := o9
    simp only [List.cons_append, List.nil_append] at N9
    have a9 := neN (l9 _ (.head _) _ (.head _))
    have aZ3 : ∀ p ∈ btl, p.1 ≠ s₁.heap.objs.size + 1 + 1 + 1 := fun p hp => Ne.symm (l9 _ (.head _) _ (.tail _ hp))
    have N9 := cb_drop N9 q4_sub3
    have aZ := ne_app aZ1 (ne_app aZ2 aZ3)
    clear l9
    k_steps
    refine Hold.mk ?_
    rename News _ _ _ _ => zN9
    have zN8 := cb_drop zN9 (fun p hp => .tail _ hp)
    clear zN9
    (rename News _ _ _ _ => nN; k_dflt (refine' CtrL.useL (ps := (_, _) :: (_, _) :: (_, _) :: tl2) nN (c_kept w _ tl2 d2 x2 dx2 _ _ _ _ _ _ _ _ _ _ _ _ bl mo _ O ks hO hks6 ⟨hbl2.1, hbl'.2⟩ hOs hmo2 hod2 dlo2 hDL2) ?kM ?kB ?kF ?kX ?kT ?kK ?kd ?ku ?_; (case kM => exact List.forall_mem_cons.mpr ⟨by k_mem, List.forall_mem_cons.mpr ⟨by k_mem, List.forall_mem_cons.mpr ⟨by k_mem, q4_in2⟩⟩⟩); (case kB => k_asm); (case kF => k_asm); (case kX => k_asm); (case kT => k_asm); (case kK => first | exact rfl | assumption); (case kd => ktr_room); (case ku => ktr_units)); intro r9 tl9 h9 tk9 F9 N9 l9 o9; clear nN)
    obtain ⟨rfl, rfl⟩ := o9
    rw [List.append_nil] at N9
    clear l9
    k_steps
    rename Fr _ _ _ _ => zF0
    have hkn := PyProof.Rows.keysNodup_of_isDictOf hod
    have hkn2 := PyProof.Rows.keysNodup_of_isDictOf hod2
    have hkn3 := PyProof.Rows.keysNodup_of_isDictOf hod3
    clear aZ1 aZ2 aZ3
    rename_i z4x1 z4x2 z4x3 z4x4 z4x5 z4x6 z4x7 z4x8 z4x9 z4x10 z4x11 z4x12 z4x13 z4x14 z4x15 z4x16 z4x17 z4x18 z4x19 z4x20 z4x21 z4x22 z4x23
    clear z3x17 z4x1 z4x2 z4x3 z4x4 z4x5 z4x6 z4x7 z4x8 z4x9 z4x10 z4x11 z4x12 z4x13 z4x14 z4x15 z4x16 z4x17 z4x18 z4x19 z4x20 z4x21 z4x22 z4x23 tk
    revert w s₀ s₁ mg mb G Y fa o pm doc ho hg X V z3x1 z3x2 TE TW z1x1 z1x2 M z1x3 z1x4 hcd sc z1x5 z1x6 z1x7 z1x8 z1x9 z1x10 z1x11 z1x12 z1x13 z1x14 z1x15 z1x16 z1x17 z1x18 z1x19 z1x20 z1x21 z1x22 K0 hD oA vcA hcA z1x27 z1x28 z1x30 z1x33 z1x35 z1x47 bl O to t0 mo hmor z2x15 z2x16 hbl' wh hwr ks hOs hOl hO z3x7 z3x11 T t12 z3x18 z3x20 ts hT hT1 hT2 KX hmo2 hbl2 hks6 hks1 x dx n1 g1 g2 g3 g4 g5 k1 k2 k3 k4 k5 tb1 tu1 sx sdx n2 g6 g7 k6 k7 tb2 tw2 d od kvs tl' dlo hod hDL a1 a2 a3 a4 a5 x2 dx2 n3 g8 g9 k8 k9 tb3 tw3 wt hwt a6 a7 d2 od2 kvs2 tl2 dlo2 hod2 hDL2 a8 d3 od3 kvs3 btl dlo3 hod3 hDL3 a9 aZ h9 tk9 zF0 N9 hkn hkn2 hkn3
    exact mineKa.out
end Mine
namespace Mine
set_option maxRecDepth 1000000
theorem tl_rng {ts : List Int} {bl : Int} (h : ts.length ≤ 48) (hb : 2 ≤ bl ∧ bl ≤ 4) : -1000 ≤ (ts.length : Int) - bl + 1 ∧ (ts.length : Int) - bl + 1 ≤ 1000 := by omega
theorem rs1 {m : Int} : Builtin.Range.rangeSize 0 m 1 = (m.toNat : Int) := by
  unfold Builtin.Range.rangeSize
  simp only [Int.sub_zero, Int.ediv_one]
  split <;> (try split) <;> omega
theorem sm1 {m : Int} (h1 : -1000 ≤ m) (h2 : m ≤ 1000) : Builtin.Range.small 0 m 1 = true := by
  unfold Builtin.Range.small
  rw [rs1, if_pos (by omega)]
  simp only [Builtin.Range.rangeFitsLong, Bool.and_eq_true, Bool.or_eq_true, decide_eq_true_eq, beq_iff_eq]
  omega
theorem at_rng {ts : List Int} {bl : Int} {i : Nat} (h : i < ((ts.length : Int) - bl + 1).toNat) : ∃ ai : Int, (0 : Int) + (i : Int) * 1 = ai ∧ 0 ≤ ai ∧ ai + bl ≤ ts.length := ⟨_, rfl, by omega, by omega⟩
local macro_rules | `(tactic| walk_at "pyIter ref") => `(tactic| ((with_reducible show wpAny _ _ (pyIter _) (fun it s₂ => LoopAtT _ _ _ _ _ _ _ _ _ it s₂) _ _); refine Hold.out ?_))
local macro_rules | `(tactic| k_all) => `(tactic| assumption)
local macro_rules | `(tactic| walk_at $x:str) => if ["call ref"].contains x.getString then `(tactic| refine Hold.out ?_) else Lean.Macro.throwUnsupported
set_option maxHeartbeats 100000000 in
noncomputable def s5 : (P : Prop × Prop) ×' (Later P.1 → Later P.2 → s4.1) := by
  refine ⟨(?P9, ?P8), fun mineKa mineKb => ?main9⟩
  case main9 =>
    w_top off
    intro w s₀ s₁ mg mb G Y fa o pm doc ho hg X V z3x1 z3x2 TE TW z1x1 z1x2 M z1x3 z1x4 hcd sc z1x5 z1x6 z1x7 z1x8 z1x9 z1x10 z1x11 z1x12 z1x13 z1x14 z1x15 z1x16 z1x17 z1x18 z1x19 z1x20 z1x21 z1x22 K0 hD oA vcA hcA z1x27 z1x28 z1x30 z1x33 z1x35 z1x47 bl O to t0 mo hmor z2x15 z2x16 hbl' wh hwr ks hOs hOl hO z3x7 z3x11 T t12 z3x18 z3x20 ts hT hT1 hT2 KX hmo2 hbl2 hks6 hks1 x dx n1 g1 g2 g3 g4 g5 k1 k2 k3 k4 k5 tb1 tu1 sx sdx n2 g6 g7 k6 k7 tb2 tw2 d od kvs tl' dlo hod hDL a1 a2 a3 a4 a5 x2 dx2 n3 g8 g9 k8 k9 tb3 tw3 wt hwt a6 a7 d2 od2 kvs2 tl2 dlo2 hod2 hDL2 a8 d3 od3 kvs3 btl dlo3 hod3 hDL3 a9 aZ h9 tk9 zF0 N9 hkn hkn2 hkn3
    (revert KX; intro KX)
    k_dflt (with_unfolding_all refine' For_invTF zF0 ?_ (by intro _; rfl))
    k_steps
    refine Hold.mk ?_
    rename IsRange _ _ _ _ _ _ _ _ => hrg
    rename Fr _ _ _ _ => lF
    rename News _ _ _ _ => lN
    have htl : -1000 ≤ (ts.length : Int) - bl + 1 ∧ (ts.length : Int) - bl + 1 ≤ 1000 := tl_rng hT1 hbl'
    k_dflt (with_unfolding_all refine' kft_range (σ := Obj) (fun c => (s₁.heap.objs.size + 1 + 1 + 1, c) :: _)
                                          (fun _ => []) [Str.ofString "value", Str.ofString "piece", Str.ofString "lots", Str.ofString "sizes", Str.ofString "told"]
                                          (fun _ c => ∃ v, c.data = .cell v)
                                          oA rfl hrg (sm1 htl.1 htl.2) rs1 (by intro _ _; rfl) lF lN ?kk ?kp ?turn ?done)
    case kk => exact (fun _ h => nomatch h)
    case kp => exact ⟨_, hcA⟩
    case turn =>
      intro c I i t u s₂ own oI hi hown hfp hI hP' F1 N1
      refine wp_gen2 fun R9 E9 hR9 => ?_
      obtain ⟨v0, hv0⟩ := hP'
      dsimp only [kstB] at hI F1 N1
      simp only [List.cons_append] at N1
      have hi9 := hi
      clear hi
      obtain ⟨ai, hai, ha0, hal⟩ := at_rng hi9
      rw [hai]
      clear hai hi9
      have hLI := hI _ (.head _)
      have hall := ne_app aZ (fun p hp e => hLI ((e.symm).trans (hfp p hp)) : ∀ p ∈ own, p.1 ≠ s₁.heap.objs.size + 1 + 1 + 1)
      k_steps
      refine Hold.mk ?_
      clear N1 F1 hv0
      rename_i z5x1 z5x2 z5x3 z5x4 z5x5 z5x6 z5x7 z5x8 z5x9 z5x10 z5x11
      clear h9 tk9 z5x1 z5x2 z5x3 z5x4 z5x5 hrg z5x6 i v0
      revert w s₀ s₁ mg mb G Y fa o pm doc ho hg X V z3x1 z3x2 TE TW z1x1 z1x2 M z1x3 z1x4 hcd sc z1x5 z1x6 z1x7 z1x8 z1x9 z1x10 z1x11 z1x12 z1x13 z1x14 z1x15 z1x16 z1x17 z1x18 z1x19 z1x20 z1x21 z1x22 K0 hD oA vcA hcA z1x27 z1x28 z1x30 z1x33 z1x35 z1x47 bl O to t0 mo hmor z2x15 z2x16 hbl' wh hwr ks hOs hOl hO z3x7 z3x11 T t12 z3x18 z3x20 ts hT hT1 hT2 hmo2 hbl2 hks6 hks1 x dx n1 g1 g2 g3 g4 g5 k1 k2 k3 k4 k5 tb1 tu1 sx sdx n2 g6 g7 k6 k7 tb2 tw2 d od kvs tl' dlo hod hDL a1 a2 a3 a4 a5 x2 dx2 n3 g8 g9 k8 k9 tb3 tw3 wt hwt a6 a7 d2 od2 kvs2 tl2 dlo2 hod2 hDL2 a8 d3 od3 kvs3 btl dlo3 hod3 hDL3 a9 aZ hkn hkn2 hkn3 KX htl c I t u s₂ own oI hown hfp hI R9 E9 hR9 ai ha0 hal hLI hall z5x7 z5x8 z5x9 z5x10 z5x11
      exact mineKa.out
    case done =>
      intro c u h tk hP' F1 N1
      obtain ⟨v0, hv0⟩ := hP'
      dsimp only [kstB] at F1 N1
      rename_i z6x1 z6x2 z6x3 z6x4 z6x5 z6x6 z6x7 z6x8
      clear kvs hod hDL kvs2 hod2 hDL2 kvs3 hod3 hDL3 z6x1 z6x2 hkn hkn2 hkn3 z6x5 z6x6 z6x7 hrg lF lN
      revert w s₀ s₁ mg mb G Y fa o pm doc ho hg X V z3x1 z3x2 TE TW z1x1 z1x2 M z1x3 z1x4 hcd sc z1x5 z1x6 z1x7 z1x8 z1x9 z1x10 z1x11 z1x12 z1x13 z1x14 z1x15 z1x16 z1x17 z1x18 z1x19 z1x20 z1x21 z1x22 K0 hD oA vcA hcA z1x27 z1x28 z1x30 z1x33 z1x35 z1x47 bl O to t0 mo hmor z2x15 z2x16 hbl' wh hwr ks hOs hOl hO z3x7 z3x11 T t12 z3x18 z3x20 ts hT hT1 hT2 hmo2 hbl2 hks6 hks1 x dx n1 g1 g2 g3 g4 g5 k1 k2 k3 k4 k5 tb1 tu1 sx sdx n2 g6 g7 k6 k7 tb2 tw2 d od tl' dlo a1 a2 a3 a4 a5 x2 dx2 n3 g8 g9 k8 k9 tb3 tw3 wt hwt a6 a7 d2 od2 tl2 dlo2 a8 d3 od3 btl dlo3 a9 aZ h9 tk9 KX z6x3 z6x4 z6x8 htl c u h tk F1 N1 v0 hv0
      exact mineKb.out
end Mine
namespace Mine
set_option maxRecDepth 1000000
theorem st5 {z : Str} (h : [Str.ofString "value", Str.ofString "piece", Str.ofString "lots", Str.ofString "sizes", Str.ofString "told"].contains z = false) :
    ¬ z = Str.ofString "told" ∧ ¬ z = Str.ofString "sizes" ∧ ¬ z = Str.ofString "lots" ∧ ¬ z = Str.ofString "piece" ∧ ¬ z = Str.ofString "value" ∧ ¬ [Str.ofString "value", Str.ofString "piece", Str.ofString "lots", Str.ofString "sizes", Str.ofString "told"].contains z = true := by
  have h' := h
  simp only [List.contains_cons, List.contains_nil, Bool.or_false, Bool.or_eq_false_iff, beq_eq_false_iff_ne, ne_eq] at h'
  exact ⟨h'.2.2.2.2, h'.2.2.2.1, h'.2.2.1, h'.2.1, h'.1, by rw [h]; exact Bool.false_ne_true⟩
theorem mv_last {z : Addr × Obj} {l : List (Addr × Obj)} : ∀ p ∈ z :: l, p ∈ l ++ [z] := by
  intro p hp; simp only [List.mem_cons, List.mem_append] at hp ⊢; grind
def SamePost (h₀ : Heap) (L : Addr) (m : Str → Option Value) (news : List (Addr × Obj)) (s : Shared) (fl : Flow) (s' : Shared) : Prop := fl = .next ∧ ∃ h' tk, Fr h₀ L h' m ∧ News h₀ L h' news ∧ s' = { s with heap := h', toks := tk }
theorem join_exec {M : Model} {A : Around} {E : Value → Shared → Prop} {s : Shared} {h₀ : Heap} {L : Addr} {m : Str → Option Value} {news : List (Addr × Obj)} {env : Env} {st : Stmt} {Q : Flow → Shared → Prop} (_F : Fr h₀ L s.heap m) (_N : News h₀ L s.heap news)
    (t : wpAny M A (exec st env) (SamePost h₀ L m news s) E s) (k : ∀ h' tk, Fr h₀ L h' m → News h₀ L h' news → Q .next { s with heap := h', toks := tk }) : wpAny M A (exec st env) Q E s :=
  wpAny_mono t (fun fl s' ⟨e, h', tk, F', N', e'⟩ => by rw [e, e']; exact k h' tk F' N') fun _ _ e => e
theorem at_lim {ts : List Int} {ai bl : Int} (h0 : 0 ≤ ai) (h : ai + bl ≤ ts.length) (hl : ts.length ≤ 48) (hb : 2 ≤ bl ∧ bl ≤ 4) : 0 ≤ ai ∧ ai < 999 := by omega
theorem at_lim1 {ai : Int} (h : 0 ≤ ai ∧ ai < 999) : 0 ≤ ai + 1 ∧ ai + 1 < 1000 := by omega
local macro_rules | `(tactic| walk_at "pyIter ref") => `(tactic| ((with_reducible show wpAny _ _ (pyIter _) (fun it s₂ => LoopAtT _ _ _ _ _ _ _ _ _ it s₂) _ _); refine Hold.out ?_))
local macro_rules | `(tactic| k_all) => `(tactic| assumption)
local macro_rules | `(tactic| walk_at "call builtin:max") => `(tactic| ((with_reducible show wpAny _ _ (call (Value.builtin "max") [Value.ref _]) _ _ _); refine Hold.out ?_))
local macro_rules | `(tactic| walk_at "subscriptTail") => `(tactic| ((with_reducible show wpAny _ _ (subscriptTail _ _ (Value.ref _) (Value.bytes _ _)) _ _ _); refine Hold.out ?_))
local macro_rules | `(tactic| walk_at "exec If") => `(tactic| ((with_reducible show wpAny _ _ (exec (PySem.Stmt.If (PySem.Expr.BoolOp PySem.BoolOp.And _ _) _ _ _) _) _ _ _); refine Hold.out ?_))
local macro_rules | `(tactic| walk_at $x:str) => if ["call ref", "eval ListComp", "CompSrc", "CompEnd", "KCfEl", "call type:list", "call builtin:list.index", "call type:tuple", "compareOp Eq ref ref", "compareOp NotEq ref ref"].contains x.getString then `(tactic| refine Hold.out ?_) else Lean.Macro.throwUnsupported
set_option maxHeartbeats 100000000 in
noncomputable def s6 : (P : Prop) ×' (Later P → s5.1.1) := by
  refine ⟨?P9, fun mineKa => ?main9⟩
  case main9 =>
    w_top off
    intro w s₀ s₁ mg mb G Y fa o pm doc ho hg X V z3x1 z3x2 TE TW z1x1 z1x2 M z1x3 z1x4 hcd sc z1x5 z1x6 z1x7 z1x8 z1x9 z1x10 z1x11 z1x12 z1x13 z1x14 z1x15 z1x16 z1x17 z1x18 z1x19 z1x20 z1x21 z1x22 K0 hD oA vcA hcA z1x27 z1x28 z1x30 z1x33 z1x35 z1x47 bl O to t0 mo hmor z2x15 z2x16 hbl' wh hwr ks hOs hOl hO z3x7 z3x11 T t12 z3x18 z3x20 ts hT hT1 hT2 hmo2 hbl2 hks6 hks1 x dx n1 g1 g2 g3 g4 g5 k1 k2 k3 k4 k5 tb1 tu1 sx sdx n2 g6 g7 k6 k7 tb2 tw2 d od kvs tl' dlo hod hDL a1 a2 a3 a4 a5 x2 dx2 n3 g8 g9 k8 k9 tb3 tw3 wt hwt a6 a7 d2 od2 kvs2 tl2 dlo2 hod2 hDL2 a8 d3 od3 kvs3 btl dlo3 hod3 hDL3 a9 aZ hkn hkn2 hkn3 KX htl c I t u s₂ own oI hown hfp hI R9 E9 hR9 ai ha0 hal hLI hall z5x7 z5x8 z5x9 z5x10 z5x11
    (revert KX; intro KX)
    rename _ = Data.cell (some (Value.int ai _)) => hcAt
    have hts1 : ts.length ≤ 100 := Nat.le_trans hT1 (by decide)
    have hbl3 : 0 ≤ bl ∧ bl < 1000 := ⟨Int.le_trans (by decide) hbl2.1, hbl2.2⟩
    have hwr2 : 0 ≤ wt ∧ wt < 2147483647 := by rw [hwt]; exact wpow_range _
    have hatl9 := at_lim ha0 hal hT1 hbl'
    have hatl : 0 ≤ ai ∧ ai < 1000 := ⟨ha0, Int.lt_trans hatl9.2 (by decide)⟩
    (rename News _ _ _ _ => nN; k_dflt (refine' CtrL.useL (ps := [_, _]) nN (c_of w _ x2 dx2 _ _ _ _ _ _ _ _ _ bl _ ai T ts hT hts1 hbl3 hatl) ?kM ?kB ?kF ?kX ?kT ?kK ?kd ?ku ?_; (case kM => exact List.forall_mem_cons.mpr ⟨by k_mem, List.forall_mem_cons.mpr ⟨by k_mem, (fun _ hp => nomatch hp)⟩⟩); (case kB => k_asm); (case kF => k_asm); (case kX => k_asm); (case kT => k_asm); (case kK => first | exact rfl | assumption); (case kd => ktr_room); (case ku => ktr_units)); intro r9 tl9 h9 tk9 F9 N9 l9 o9; clear nN)
    obtain ⟨rfl, tv, rfl⟩ := o9
    rw [List.append_nil] at N9
    clear l9
    k_steps
    refine Hold.mk ?_
    rename Fr _ _ _ _ => zF
    rename News _ _ _ _ => zN
    refine join_exec zF zN (wpAny_If ?_) ?_
    · k_steps
      · refine Hold.mk ?_
        (rename News _ _ _ _ => nN; k_dflt (refine' CtrL.useL (ps := [_, _]) nN (c_rolled w _ x2 dx2 _ _ _ _ _ _ _ _ _ _ bl wt _ _ _ (ofsum_range _) hwr2 ⟨(by assumption), (by assumption)⟩ ⟨(by assumption), (by assumption)⟩) ?kM ?kB ?kF ?kX ?kT ?kK ?kd ?ku ?_; (case kM => exact List.forall_mem_cons.mpr ⟨by k_mem, List.forall_mem_cons.mpr ⟨by k_mem, (fun _ hp => nomatch hp)⟩⟩); (case kB => k_asm); (case kF => k_asm); (case kX => k_asm); (case kT => k_asm); (case kK => first | exact rfl | assumption); (case kd => ktr_room); (case ku => ktr_units)); intro r9 tl9 h9 tk9 F9 N9 l9 o9; clear nN)
        obtain ⟨rfl, tr, hr⟩ := o9
        rw [hwt, rolled_law hbl' hT2 ha0 (by assumption)] at hr
        subst hr
        rw [List.append_nil] at N9
        clear l9
        k_steps
        refine Hold.mk ?_
        (rename News _ _ _ _ => nN; k_dflt (refine' CtrL.useL (ps := [_, _]) nN (c_of w _ x2 dx2 _ _ _ _ _ _ _ _ _ bl _ (ai + 1) T ts hT hts1 hbl3 (at_lim1 hatl9)) ?kM ?kB ?kF ?kX ?kT ?kK ?kd ?ku ?_; (case kM => exact List.forall_mem_cons.mpr ⟨by k_mem, List.forall_mem_cons.mpr ⟨by k_mem, (fun _ hp => nomatch hp)⟩⟩); (case kB => k_asm); (case kF => k_asm); (case kX => k_asm); (case kT => k_asm); (case kK => first | exact rfl | assumption); (case kd => ktr_room); (case ku => ktr_units)); intro r9 tl9 h9 tk9 F9 N9 l9 o9; clear nN)
        obtain ⟨rfl, tv2, rfl⟩ := o9
        rw [List.append_nil] at N9
        clear l9
        k_steps
        · exfalso; exact (‹ofsum _ ≠ ofsum _›) rfl
        · exact ⟨rfl, _, _, F9, N9, rfl⟩
      · exact ⟨rfl, _, _, zF, zN, rfl⟩
    intro h10 tk10 F10 N10
    clear zF zN
    k_steps
    rename News _ _ _ _ => zN
    have hpk := isB_pc (prog := PySem.Challenge.rw_pb0086_01.row.prog) (w := w) (O := T) (b := bl) (a := ai) (t := 0) ha0 hbl3.1
    rcases hDL3.look (pc T.toList bl ai) with ⟨hv3, hf3⟩ | ⟨l3, vs3, nl3, xs, hv3, hm3, hi3, hf3⟩
    · have hv0 := turn_absent hO hT hbl' hOs hT2 ha0 hal hf3 hDL
      refine kda_in zN (by k_mem) hod3 dlo3 hpk false (by rw [hv3]; rfl) ?_
      k_steps
      refine Hold.mk ?_
      rename Fr _ _ _ _ => yF
      rename News _ _ _ _ => yN
      refine LCg.CompSrc.ledger (its := #[]) (k := 0) (by rfl) yF yN (by k_mem) (Nat.zero_le _) ?_
      intro g3
      refine' kcf_list (vs := []) (like ks ts ai) IntsAre.nil (fun k' t' I' oI' C' oC' D' m' ys' h' tk' E' hk' hC' hx' F' N' off' ne' mk' => (nomatch hk')) ?_
      intro ys hI8
      k_steps
      refine Hold.mk ?_
      (rename News _ _ _ _ => nN; k_dflt (refine' CtrL.useL (ps := [_, _, _]) nN (c_longest0 w _ x dx n1 _ _ _ _ _ _ _ _ _ _ _ _ _ bl mo _ O d od kvs _ _ _ T ai _ hod dlo hv0) ?kM ?kB ?kF ?kX ?kT ?kK ?kd ?ku ?_; (case kM => exact List.forall_mem_cons.mpr ⟨by k_mem, List.forall_mem_cons.mpr ⟨by k_mem, List.forall_mem_cons.mpr ⟨by k_mem, (fun _ hp => nomatch hp)⟩⟩⟩); (case kB => k_asm); (case kF => k_asm); (case kX => k_asm); (case kT => k_asm); (case kK => first | exact rfl | assumption); (case kd => ktr_room); (case ku => ktr_units)); intro r9 tl9 h9 tk9 F9 N9 l9 o9; clear nN)
      obtain ⟨ut, tp, tq, rfl, rfl⟩ := o9
      clear l9
      have N9 := cb_drop N9 mv_last
      k_steps
      refine Hold.mk ?_
      refine call_tuple_tup ⟨_, (N9 _ (.head _)).1, rfl, _, rfl⟩ ?_
      k_steps
      refine Hold.mk ?_
      rename News _ _ _ _ => zN
      refine ke_eq_ints (ns := []) (ms := []) (xs := []) (ys := []) (isL_news zN (.tail _ (.tail _ (.tail _ (.head _))))) (isL_news zN (.head _)) IntsAre.nil IntsAre.nil (by ktr_units) ?_
      rw [decide_eq_true (rfl : ([] : List Int) = [])]
      k_steps
      refine Hold.mk ?_
      rename News _ _ _ _ => zN
      refine ke_ne_ints (ns := []) (ms := []) (xs := []) (ys := []) (isL_news zN (by k_mem)) (isL_news zN (.head _)) IntsAre.nil IntsAre.nil (by ktr_units) ?_
      rw [decide_eq_true (rfl : ([] : List Int) = [])]
      k_steps
      rename Fr _ _ _ _ => zF
      rename News _ _ _ _ => zN
      exact hR9 _ _ (kft_end _ zF zN (fun p hp => .tail _ (.tail _ (.tail _ (.tail _ (.tail _ (List.mem_append_left own hp)))))) (fun p hp => by repeat (first | exact List.mem_append_right (tl' ++ (tl2 ++ btl)) hp | apply List.Mem.tail)) (List.forall_mem_cons.mpr ⟨hLI, fun p hp => hI p (.tail _ hp)⟩) (fun _ h => nomatch h) (fun z _ h2 => by dsimp only; have q := st5 h2; rw [if_neg q.1, if_neg q.2.1, if_neg q.2.2.1, if_neg q.2.2.2.1, if_neg q.2.2.2.2.1, if_neg q.2.2.2.2.2]) ⟨_, hcAt⟩)
    · rename_i z7x1 z7x2 z7x3 z7x4 z7x5 z7x6 z7x7
      clear z5x7 h9 tk9 z7x1 tk h10 tk10 z7x2
      revert w s₀ s₁ mg mb G Y fa o pm doc ho hg X V z3x1 z3x2 TE TW z1x1 z1x2 M z1x3 z1x4 hcd sc z1x5 z1x6 z1x7 z1x8 z1x9 z1x10 z1x11 z1x12 z1x13 z1x14 z1x15 z1x16 z1x17 z1x18 z1x19 z1x20 z1x21 z1x22 K0 hD oA vcA hcA z1x27 z1x28 z1x30 z1x33 z1x35 z1x47 bl O to t0 mo hmor z2x15 z2x16 hbl' wh hwr ks hOs hOl hO z3x7 z3x11 T t12 z3x18 z3x20 ts hT hT1 hT2 hmo2 hbl2 hks6 hks1 x dx n1 g1 g2 g3 g4 g5 k1 k2 k3 k4 k5 tb1 tu1 sx sdx n2 g6 g7 k6 k7 tb2 tw2 d od kvs tl' dlo hod hDL a1 a2 a3 a4 a5 x2 dx2 n3 g8 g9 k8 k9 tb3 tw3 wt hwt a6 a7 d2 od2 kvs2 tl2 dlo2 hod2 hDL2 a8 d3 od3 kvs3 btl dlo3 hod3 hDL3 a9 aZ hkn hkn2 hkn3 htl c I t u s₂ own oI hown hfp hI R9 E9 hR9 ai ha0 hal hLI hall z5x8 hcAt KX hts1 hbl3 hwr2 hatl9 hatl tv z7x3 z7x4 z7x5 z7x6 z7x7 zN hpk l3 vs3 nl3 xs hv3 hm3 hi3 hf3
      exact mineKa.out
end Mine
namespace Mine
set_option maxRecDepth 1000000
theorem le_of_add {a b : Int} {n : Nat} (h : a + b ≤ n) (hb : 0 ≤ b) : a ≤ n := by omega
theorem fst_lim {a b : Int} {ks : List Int} (h0 : 0 ≤ a) (h1 : a + b ≤ ks.length) (hl : ks.length ≤ 24) (hb : 2 ≤ b ∧ b ≤ 4) : 0 ≤ a ∧ a < 1000 := by omega
theorem lots_lim {vs : List Value} {xs ks : List Int} {b mo : Int} (h : vs.length = (cap mo xs).length) (hx : xs.length ≤ nbk ks.length b) (hl : ks.length ≤ 24) (hb : 2 ≤ b ∧ b ≤ 4) (hm : 1 ≤ mo) : vs.length ≤ 100 := by
  have h1 := cap_len2 (mo := mo) (l := xs) (by omega)
  have h2 := nbk_le (len := ks.length) (b := b) (by omega) (by omega)
  omega
local macro_rules | `(tactic| k_all) => `(tactic| assumption)
local macro_rules | `(tactic| walk_at "call builtin:max") => `(tactic| ((with_reducible show wpAny _ _ (call (Value.builtin "max") [Value.ref _]) _ _ _); refine Hold.out ?_))
local macro_rules | `(tactic| walk_at "subscriptTail") => `(tactic| ((with_reducible show wpAny _ _ (subscriptTail _ _ (Value.ref _) (Value.bytes _ _)) _ _ _); refine Hold.out ?_))
local macro_rules | `(tactic| walk_at "exec If") => `(tactic| ((with_reducible show wpAny _ _ (exec (PySem.Stmt.If (PySem.Expr.BoolOp PySem.BoolOp.And _ _) _ _ _) _) _ _ _); refine Hold.out ?_))
local macro_rules | `(tactic| walk_at $x:str) => if ["call ref", "pyIter ref", "eval ListComp", "CompSrc", "CompEnd", "KCfEl", "call type:list", "call builtin:list.index", "call type:tuple", "compareOp Eq ref ref", "compareOp NotEq ref ref"].contains x.getString then `(tactic| refine Hold.out ?_) else Lean.Macro.throwUnsupported
set_option maxHeartbeats 100000000 in
theorem s7 : s6.1 := by
  w_top off
  intro w s₀ s₁ mg mb G Y fa o pm doc ho hg X V z3x1 z3x2 TE TW z1x1 z1x2 M z1x3 z1x4 hcd sc z1x5 z1x6 z1x7 z1x8 z1x9 z1x10 z1x11 z1x12 z1x13 z1x14 z1x15 z1x16 z1x17 z1x18 z1x19 z1x20 z1x21 z1x22 K0 hD oA vcA hcA z1x27 z1x28 z1x30 z1x33 z1x35 z1x47 bl O to t0 mo hmor z2x15 z2x16 hbl' wh hwr ks hOs hOl hO z3x7 z3x11 T t12 z3x18 z3x20 ts hT hT1 hT2 hmo2 hbl2 hks6 hks1 x dx n1 g1 g2 g3 g4 g5 k1 k2 k3 k4 k5 tb1 tu1 sx sdx n2 g6 g7 k6 k7 tb2 tw2 d od kvs tl' dlo hod hDL a1 a2 a3 a4 a5 x2 dx2 n3 g8 g9 k8 k9 tb3 tw3 wt hwt a6 a7 d2 od2 kvs2 tl2 dlo2 hod2 hDL2 a8 d3 od3 kvs3 btl dlo3 hod3 hDL3 a9 aZ hkn hkn2 hkn3 htl c I t u s₂ own oI hown hfp hI R9 E9 hR9 ai ha0 hal hLI hall z5x8 hcAt KX hts1 hbl3 hwr2 hatl9 hatl tv z7x3 z7x4 z7x5 z7x6 z7x7 zN hpk l3 vs3 nl3 xs hv3 hm3 hi3 hf3
  (revert KX; intro KX)
  obtain ⟨hfst, hsum, hcap, hcne, hxl, j, hj⟩ := turn_there hO hT hbl' hOs hmo2.1 ha0 hal hf3
  obtain ⟨l2, vs2, nl2, hv2, hm2, hi2⟩ := hDL2.at2 hkn2 hj
  obtain ⟨l1', vs1, nl1, hv1, hm1, hi1⟩ := hDL.at2 hkn hj
  have hm3' : (l3, listOf vs3.toArray nl3) ∈ tl' ++ (tl2 ++ btl) ++ own := List.mem_append_left _ (List.mem_append_right _ (List.mem_append_right _ hm3))
  have hm2' : (l2, listOf vs2.toArray nl2) ∈ tl' ++ (tl2 ++ btl) ++ own := List.mem_append_left _ (List.mem_append_right _ (List.mem_append_left _ hm2))
  have hm1' : (l1', listOf vs1.toArray nl1) ∈ tl' ++ (tl2 ++ btl) ++ own := List.mem_append_left _ (List.mem_append_left _ hm1)
  refine kda_in zN (by k_mem) hod3 dlo3 hpk true (by rw [hv3]; rfl) ?_
  k_steps
  refine Hold.mk ?_
  rename News _ _ _ _ => zN
  refine kda_item zN (by k_mem) hod3 hpk hv3 ?_
  k_steps
  have hx3 : (0 : Int) < (xs.length : Int) := Int.ofNat_lt.mpr hfst.2.2
  have hfl := fst_lim hfst.1 hfst.2.1 hOl hbl'
  refine item_ints_any (isL_news zN (by repeat (first | exact hm3' | apply List.Mem.tail))) hi3 (Int.le_refl 0) hx3 (by decide) ?_
  intro t20
  rw [show Int.toNat 0 = 0 from rfl]
  k_steps
  refine Hold.mk ?_
  (rename News _ _ _ _ => nN; k_dflt (refine' CtrL.useL (ps := [_, _]) nN (c_of w _ x2 dx2 _ _ _ _ _ _ _ _ _ bl wt (xs.getD 0 0) O ks hO hks1 hbl3 hfl) ?kM ?kB ?kF ?kX ?kT ?kK ?kd ?ku ?_; (case kM => exact List.forall_mem_cons.mpr ⟨by k_mem, List.forall_mem_cons.mpr ⟨by k_mem, (fun _ hp => nomatch hp)⟩⟩); (case kB => k_asm); (case kF => k_asm); (case kX => k_asm); (case kT => k_asm); (case kK => first | exact rfl | assumption); (case kd => ktr_room); (case ku => ktr_units)); intro r9 tl9 h9 tk9 F9 N9 l9 o9; clear nN)
  obtain ⟨rfl, t21, hr⟩ := o9
  rw [hsum] at hr
  subst hr
  rw [List.append_nil] at N9
  clear l9
  k_steps
  refine kda_item N9 (by k_mem) hod2 (intKind_is _ _ _ _) hv2 ?_
  k_steps
  refine Hold.mk ?_
  have hll2 : vs2.length ≤ 100 := lots_lim hi2.length hxl hOl hbl' hmo2.1
  refine kup_listOf F9 N9 (b := l2) (its2 := vs2.toArray) (zs := vs2) (by repeat (first | exact hm2' | apply List.Mem.tail)) rfl ?_ (by rw [sizeLine_eq]; exact Nat.le_trans hll2 (by decide))
  intro D3 c3 h13 F13 N13 l13
  clear N9
  k_lt l13
  k_steps
  refine Hold.mk ?_
  rename Fr _ _ _ _ => yF
  rename News _ _ _ _ => yN
  refine LCg.CompSrc.ledger (its := vs2.toArray) (k := c3) (by rfl) yF yN (.head _) (by rw [sizeLine_eq, List.size_toArray]; exact Nat.le_trans hll2 (by decide)) ?_
  intro g3
  refine' kcf_list (like ks ts ai) hi2 (fun k' t' I' oI' C' oC' D' m' ys' h' tk' E' hk' hC' hx' F' N' off' ne' mk' => ?_) ?_
  · have hkb := fst_lim (hcap k' hk').1 (hcap k' hk').2.1 hOl hbl'
    k_steps
    refine Hold.mk ?_
    (rename News _ _ _ _ => nN; k_dflt (refine' CtrL.useL (ps := []) nN (c_same w _ _ _ _ _ O T ks ts k' ai hO hT hks1 hts1 hkb hatl) ?kM ?kB ?kF ?kX ?kT ?kK ?kd ?ku ?_; (case kM => exact (by intro p hp; exact nomatch hp)); (case kB => k_asm); (case kF => k_asm); (case kX => k_asm); (case kT => k_asm); (case kK => first | exact rfl | assumption); (case kd => ktr_room); (case ku => ktr_units)); intro r9 tl9 h9 tk9 F9 N9 l9 o9; clear nN)
    obtain ⟨rfl, t22, rfl⟩ := o9
    rw [List.append_nil] at N9
    clear l9
    k_steps
    refine Hold.mk ?_
    refine LCg.CompEnd.intro (by assumption) N9 _ (fun p hp => hp) off' (.inr ⟨_, by k_mem, rfl, _, rfl⟩) ?_
    exact kcf_el rfl rfl rfl
  · intro ys hI8
    k_steps
    refine Hold.mk ?_
    have hlsb : ∀ p ∈ cap mo xs, 0 ≤ p ∧ p ≤ ks.length := fun p hp => ⟨(hcap p hp).1, le_of_add (hcap p hp).2.1 hbl3.1⟩
    have hlsl : (cap mo xs).length ≤ 100 := hi2.length ▸ hll2
    have hatp : 0 ≤ ai ∧ ai ≤ ts.length := ⟨ha0, le_of_add hal hbl3.1⟩
    (rename News _ _ _ _ => nN; k_dflt (refine' CtrL.useL (ps := [_, _, _, _]) nN (c_longest w _ x dx n1 _ _ _ _ _ _ _ _ _ _ _ _ _ bl mo _ O d od kvs l1' vs1 nl1 (cap mo xs) _ _ _ T ks ts ai _ hO hT hks1 hts1 hatp hod dlo hv1 hi1 hlsb hlsl) ?kM ?kB ?kF ?kX ?kT ?kK ?kd ?ku ?_; (case kM => exact List.forall_mem_cons.mpr ⟨by k_mem, List.forall_mem_cons.mpr ⟨by k_mem, List.forall_mem_cons.mpr ⟨by k_mem, List.forall_mem_cons.mpr ⟨by repeat (first | exact hm1' | apply List.Mem.tail), (fun _ hp => nomatch hp)⟩⟩⟩⟩); (case kB => k_asm); (case kF => k_asm); (case kX => k_asm); (case kT => k_asm); (case kK => first | exact rfl | assumption); (case kd => ktr_room); (case ku => ktr_units)); intro r9 tl9 h9 tk9 F9 N9 l9 o9; clear nN)
    obtain ⟨ut, p9, q9, tp, tq, rfl, rfl, hpq⟩ := o9
    clear l9
    have N9 := cb_drop N9 mv_last
    k_steps
    refine Hold.mk ?_
    refine call_tuple_tup ⟨_, (N9 _ (.head _)).1, rfl, _, rfl⟩ ?_
    k_steps
    refine Hold.mk ?_
    rename News _ _ _ _ => zN
    refine ke_eq_ints (ms := []) (ys := []) (isL_news zN (.tail _ (.tail _ (.tail _ (.head _))))) (isL_news zN (.head _)) hi2 IntsAre.nil (by ktr_units) ?_
    rw [decide_eq_false hcne]
    k_steps
    refine Hold.mk ?_
    rename News _ _ _ _ => zN
    refine ke_ne_ints (ms := []) (ys := []) (isL_news zN (.tail _ (.tail _ (.tail _ (.tail _ (.head _)))))) (isL_news zN (.head _)) hi2 IntsAre.nil (by ktr_units) ?_
    rw [decide_eq_false hcne]
    k_steps
    refine Hold.mk ?_
    rename Fr _ _ _ _ => zF
    have hIl : ys.length ≤ 1000 := by rw [hI8.length, List.length_map]; exact Nat.le_trans hlsl (by decide)
    have hne8 : 0 < ((cap mo xs).map (like ks ts ai)).length := by rw [List.length_map]; exact List.length_pos_iff.mpr hcne
    refine kso_max zF zN (isL_news zN (by k_mem)) hI8 hne8 rfl ?_
    intro h20 M t23 tk20 F20 N20 hM hMx
    clear zF zN
    obtain ⟨hp9, hq9, hix⟩ := first_max hatp hbl' (fun p hp => (hcap p hp).2.2) hM hMx hpq
    k_steps
    refine Hold.mk ?_
    refine index_ints N20 (by k_mem) hI8 hIl hM ?_
    intro t24 k24
    k_steps
    refine Hold.mk ?_
    refine kso_max F20 N20 (isL_news N20 (by k_mem)) hI8 hne8 rfl ?_
    intro h21 M2 t25 tk21 F21 N21 hM2 hMx2
    clear F20 N20
    have e2 : M2 = M := Int.le_antisymm (hMx _ hM2) (hMx2 _ hM)
    subst e2 hp9 hq9
    k_steps
    refine Hold.mk ?_
    rename News _ _ _ _ => zN
    refine ne_dataH (reads_tuple_at (News.get zN (by k_mem)) rfl rfl (.cons (Reads.int _ _) (.cons (Reads.int _ _) .nil))) (reads_tuple_at (News.get zN (.head _)) rfl rfl (.cons (Reads.int _ _) (.cons (Reads.int _ _) .nil))) rfl rfl (by ktr_units) ?_
    ke_norm
    k_steps
    rename Fr _ _ _ _ => zF
    rename News _ _ _ _ => zN
    exact hR9 _ _ (kft_end _ zF zN (fun p hp => .tail _ (.tail _ (.tail _ (.tail _ (.tail _ (.tail _ (List.mem_append_left own hp))))))) (fun p hp => by repeat (first | exact List.mem_append_right (tl' ++ (tl2 ++ btl)) hp | apply List.Mem.tail)) (List.forall_mem_cons.mpr ⟨hLI, fun p hp => hI p (.tail _ hp)⟩) (fun _ h => nomatch h) (fun z _ h2 => by dsimp only; have q := st5 h2; rw [if_neg q.1, if_neg q.2.1, if_neg q.2.2.1, if_neg q.2.2.2.1, if_neg q.2.2.2.2.1, if_neg q.2.2.2.2.2]) ⟨_, hcAt⟩)
end Mine
namespace Mine
set_option maxRecDepth 1000000
theorem q8_sub {c1 c2 c3 a b : Addr × Obj} {l : List (Addr × Obj)} : ∀ p ∈ [c1, c2, c3, a, b], p ∈ c1 :: c2 :: c3 :: a :: b :: l := by
  intro p hp; simp only [List.mem_cons, List.not_mem_nil, or_false] at hp ⊢; grind
theorem fm_lim {a : Int} {n : Nat} (h : ¬ (n : Int) = 0) : 0 ≤ a.fmod n ∧ a.fmod n ≤ n := by
  have h1 := fmod_lo a (n := (n : Int)) (by omega)
  have h2 := fmod_hi a (n := (n : Int)) (by omega)
  omega
theorem min_lim {a l : Int} (h : 0 ≤ a) (hl : 0 ≤ l) : 0 ≤ (if a < l then a else l) ∧ (if a < l then a else l) ≤ a := by split <;> omega
theorem last_lim {n : Nat} (h : ¬ (n : Int) = 0) : 0 ≤ (n : Int) - 1 ∧ (n : Int) - 1 ≤ n := by omega
theorem lim9 {a : Int} {n : Nat} (h : 0 ≤ a ∧ a ≤ n) (hn : n ≤ 100) : 0 ≤ a ∧ a < 1000 := by omega
theorem nz_of {O : Array UInt8} {ks : List Int} (hO : KBw.bInts O = ks) (h : (O.toList == (#[] : Array UInt8).toList) = false) : ¬ (ks.length : Int) = 0 := by
  intro e
  have : O.toList = [] := by
    have h1 : ks = [] := List.eq_nil_of_length_eq_zero (by omega)
    rw [← hO] at h1
    exact List.map_eq_nil_iff.mp h1
  rw [this] at h
  simp at h
local macro_rules | `(tactic| walk_at "pyIter ref") => `(tactic| ((with_reducible show wpAny _ _ (pyIter _) (fun it s₂ => LoopAtT _ _ _ _ _ _ _ _ _ it s₂) _ _); refine Hold.out ?_))
local macro_rules | `(tactic| k_all) => `(tactic| assumption)
local macro_rules | `(tactic| walk_at "call builtin:max") => `(tactic| ((with_reducible show wpAny _ _ (call (Value.builtin "max") [Value.ref _]) _ _ _); refine Hold.out ?_))
local macro_rules | `(tactic| walk_at "subscriptTail") => `(tactic| ((with_reducible show wpAny _ _ (subscriptTail _ _ (Value.ref _) (Value.bytes _ _)) _ _ _); refine Hold.out ?_))
local macro_rules | `(tactic| walk_at "exec If") => `(tactic| ((with_reducible show wpAny _ _ (exec (PySem.Stmt.If (PySem.Expr.BoolOp PySem.BoolOp.And _ _) _ _ _) _) _ _ _); refine Hold.out ?_))
local macro_rules | `(tactic| walk_at $x:str) => if ["call ref", "eval ListComp", "CompSrc", "CompEnd", "KCfEl", "call type:list", "call builtin:list.index", "call type:tuple", "compareOp Eq ref ref", "compareOp NotEq ref ref"].contains x.getString then `(tactic| refine Hold.out ?_) else Lean.Macro.throwUnsupported
set_option maxHeartbeats 100000000 in
theorem s8 : s5.1.2 := by
  w_top off
  intro w s₀ s₁ mg mb G Y fa o pm doc ho hg X V z3x1 z3x2 TE TW z1x1 z1x2 M z1x3 z1x4 hcd sc z1x5 z1x6 z1x7 z1x8 z1x9 z1x10 z1x11 z1x12 z1x13 z1x14 z1x15 z1x16 z1x17 z1x18 z1x19 z1x20 z1x21 z1x22 K0 hD oA vcA hcA z1x27 z1x28 z1x30 z1x33 z1x35 z1x47 bl O to t0 mo hmor z2x15 z2x16 hbl' wh hwr ks hOs hOl hO z3x7 z3x11 T t12 z3x18 z3x20 ts hT hT1 hT2 hmo2 hbl2 hks6 hks1 x dx n1 g1 g2 g3 g4 g5 k1 k2 k3 k4 k5 tb1 tu1 sx sdx n2 g6 g7 k6 k7 tb2 tw2 d od tl' dlo a1 a2 a3 a4 a5 x2 dx2 n3 g8 g9 k8 k9 tb3 tw3 wt hwt a6 a7 d2 od2 tl2 dlo2 a8 d3 od3 btl dlo3 a9 aZ h9 tk9 KX z6x3 z6x4 z6x8 htl c u h tk F1 N1 v0 hv0
  (revert KX; intro KX)
  have N2 : News s₁.heap s₁.heap.objs.size h _ := cb_drop N1 q8_sub
  have F2 : Fr s₁.heap s₁.heap.objs.size h _ := F1
  clear N1 F1
  have hts1 : ts.length ≤ 100 := Nat.le_trans hT1 (by decide)
  k_steps
  · exact absurd (by assumption) (nz_of hO (by assumption))
  · exact absurd (by assumption) (nz_of hT (by assumption))
  have hp1 : 0 ≤ wh.fmod ks.length ∧ wh.fmod ks.length ≤ ks.length := fm_lim (by assumption)
  have ht1 : 0 ≤ (wh.fdiv 3).fmod ts.length ∧ (wh.fdiv 3).fmod ts.length ≤ ts.length := fm_lim (by assumption)
  refine Hold.mk ?_
  (rename News _ _ _ _ => nN; k_dflt (refine' CtrL.useL (ps := [_, _]) nN (c_alike w _ x dx n1 _ _ _ _ _ _ _ _ _ _ _ _ _ bl mo _ _ _ _ _ O T ks ts (wh.fmod ks.length) ((wh.fdiv 3).fmod ts.length) hO hT hks1 hts1 hp1 ht1) ?kM ?kB ?kF ?kX ?kT ?kK ?kd ?ku ?_; (case kM => exact List.forall_mem_cons.mpr ⟨by k_mem, List.forall_mem_cons.mpr ⟨by k_mem, (fun _ hp => nomatch hp)⟩⟩); (case kB => k_asm); (case kF => k_asm); (case kX => k_asm); (case kT => k_asm); (case kK => first | exact rfl | assumption); (case kd => ktr_room); (case ku => ktr_units)); intro r9 tl9 h9 tk9 F9 N9 l9 o9; clear nN)
  obtain ⟨rfl, t30, rfl⟩ := o9
  rw [List.append_nil] at N9
  clear l9
  k_steps
  refine Hold.mk ?_
  (rename News _ _ _ _ => nN; k_dflt (refine' CtrL.useL (ps := []) nN (c_same w _ _ _ _ _ O T ks ts (wh.fmod ks.length) ((wh.fdiv 3).fmod ts.length) hO hT hks1 hts1 (lim9 hp1 hks1) (lim9 ht1 hts1)) ?kM ?kB ?kF ?kX ?kT ?kK ?kd ?ku ?_; (case kM => exact (by intro p hp; exact nomatch hp)); (case kB => k_asm); (case kF => k_asm); (case kX => k_asm); (case kT => k_asm); (case kK => first | exact rfl | assumption); (case kd => ktr_room); (case ku => ktr_units)); intro r9 tl9 h9 tk9 F9 N9 l9 o9; clear nN)
  obtain ⟨rfl, t31, rfl⟩ := o9
  rw [List.append_nil] at N9
  clear l9
  k_steps
  refine Hold.mk ?_
  (rename News _ _ _ _ => nN; k_dflt (refine' CtrL.useL (ps := [_, _]) nN (c_grown w _ x dx n1 _ _ _ _ _ _ _ _ _ _ _ _ _ bl mo _ _ _ _ _ _ O T ks ts (wh.fmod ks.length) ((wh.fdiv 3).fmod ts.length) (if (wh.fdiv 3).fmod ts.length < 0 then (wh.fdiv 3).fmod ts.length else 0) hO hT hks1 hts1 hp1 ht1 (min_lim ht1.1 (Int.le_refl 0))) ?kM ?kB ?kF ?kX ?kT ?kK ?kd ?ku ?_; (case kM => exact List.forall_mem_cons.mpr ⟨by k_mem, List.forall_mem_cons.mpr ⟨by k_mem, (fun _ hp => nomatch hp)⟩⟩); (case kB => k_asm); (case kF => k_asm); (case kX => k_asm); (case kT => k_asm); (case kK => first | exact rfl | assumption); (case kd => ktr_room); (case ku => ktr_units)); intro r9 tl9 h9 tk9 F9 N9 l9 o9; clear nN)
  obtain ⟨rfl, t32, rfl⟩ := o9
  rw [List.append_nil] at N9
  clear l9
  k_steps
  refine Hold.mk ?_
  (rename News _ _ _ _ => nN; k_dflt (refine' CtrL.useL (ps := []) nN (c_back w _ _ _ _ _ _ O T ks ts (wh.fmod ks.length) ((wh.fdiv 3).fmod ts.length) (if (wh.fdiv 3).fmod ts.length < 0 then (wh.fdiv 3).fmod ts.length else 0) hO hT hks1 hts1 hp1 ht1 (min_lim ht1.1 (Int.le_refl 0))) ?kM ?kB ?kF ?kX ?kT ?kK ?kd ?ku ?_; (case kM => exact (by intro p hp; exact nomatch hp)); (case kB => k_asm); (case kF => k_asm); (case kX => k_asm); (case kT => k_asm); (case kK => first | exact rfl | assumption); (case kd => ktr_room); (case ku => ktr_units)); intro r9 tl9 h9 tk9 F9 N9 l9 o9; clear nN)
  obtain ⟨rfl, t33, rfl⟩ := o9
  rw [List.append_nil] at N9
  clear l9
  k_steps
  have hp2 : 0 ≤ (ks.length : Int) - 1 ∧ (ks.length : Int) - 1 ≤ ks.length := last_lim (by assumption)
  have ht2 : 0 ≤ (ts.length : Int) - 1 ∧ (ts.length : Int) - 1 ≤ ts.length := last_lim (by assumption)
  refine Hold.mk ?_
  (rename News _ _ _ _ => nN; k_dflt (refine' CtrL.useL (ps := [_, _]) nN (c_alike w _ x dx n1 _ _ _ _ _ _ _ _ _ _ _ _ _ bl mo _ _ _ _ _ O T ks ts ((ks.length : Int) - 1) (((ts.length : Int) - 1)) hO hT hks1 hts1 hp2 ht2) ?kM ?kB ?kF ?kX ?kT ?kK ?kd ?ku ?_; (case kM => exact List.forall_mem_cons.mpr ⟨by k_mem, List.forall_mem_cons.mpr ⟨by k_mem, (fun _ hp => nomatch hp)⟩⟩); (case kB => k_asm); (case kF => k_asm); (case kX => k_asm); (case kT => k_asm); (case kK => first | exact rfl | assumption); (case kd => ktr_room); (case ku => ktr_units)); intro r9 tl9 h9 tk9 F9 N9 l9 o9; clear nN)
  obtain ⟨rfl, t30, rfl⟩ := o9
  rw [List.append_nil] at N9
  clear l9
  k_steps
  refine Hold.mk ?_
  (rename News _ _ _ _ => nN; k_dflt (refine' CtrL.useL (ps := []) nN (c_same w _ _ _ _ _ O T ks ts ((ks.length : Int) - 1) (((ts.length : Int) - 1)) hO hT hks1 hts1 (lim9 hp2 hks1) (lim9 ht2 hts1)) ?kM ?kB ?kF ?kX ?kT ?kK ?kd ?ku ?_; (case kM => exact (by intro p hp; exact nomatch hp)); (case kB => k_asm); (case kF => k_asm); (case kX => k_asm); (case kT => k_asm); (case kK => first | exact rfl | assumption); (case kd => ktr_room); (case ku => ktr_units)); intro r9 tl9 h9 tk9 F9 N9 l9 o9; clear nN)
  obtain ⟨rfl, t31, rfl⟩ := o9
  rw [List.append_nil] at N9
  clear l9
  k_steps
  refine Hold.mk ?_
  (rename News _ _ _ _ => nN; k_dflt (refine' CtrL.useL (ps := [_, _]) nN (c_grown w _ x dx n1 _ _ _ _ _ _ _ _ _ _ _ _ _ bl mo _ _ _ _ _ _ O T ks ts ((ks.length : Int) - 1) (((ts.length : Int) - 1)) (if ((ts.length : Int) - 1) < wh.fmod 4 then ((ts.length : Int) - 1) else wh.fmod 4) hO hT hks1 hts1 hp2 ht2 (min_lim ht2.1 (fmod_lo _ (by decide)))) ?kM ?kB ?kF ?kX ?kT ?kK ?kd ?ku ?_; (case kM => exact List.forall_mem_cons.mpr ⟨by k_mem, List.forall_mem_cons.mpr ⟨by k_mem, (fun _ hp => nomatch hp)⟩⟩); (case kB => k_asm); (case kF => k_asm); (case kX => k_asm); (case kT => k_asm); (case kK => first | exact rfl | assumption); (case kd => ktr_room); (case ku => ktr_units)); intro r9 tl9 h9 tk9 F9 N9 l9 o9; clear nN)
  obtain ⟨rfl, t32, rfl⟩ := o9
  rw [List.append_nil] at N9
  clear l9
  k_steps
  refine Hold.mk ?_
  (rename News _ _ _ _ => nN; k_dflt (refine' CtrL.useL (ps := []) nN (c_back w _ _ _ _ _ _ O T ks ts ((ks.length : Int) - 1) (((ts.length : Int) - 1)) (if ((ts.length : Int) - 1) < wh.fmod 4 then ((ts.length : Int) - 1) else wh.fmod 4) hO hT hks1 hts1 hp2 ht2 (min_lim ht2.1 (fmod_lo _ (by decide)))) ?kM ?kB ?kF ?kX ?kT ?kK ?kd ?ku ?_; (case kM => exact (by intro p hp; exact nomatch hp)); (case kB => k_asm); (case kF => k_asm); (case kX => k_asm); (case kT => k_asm); (case kK => first | exact rfl | assumption); (case kd => ktr_room); (case ku => ktr_units)); intro r9 tl9 h9 tk9 F9 N9 l9 o9; clear nN)
  obtain ⟨rfl, t33, rfl⟩ := o9
  rw [List.append_nil] at N9
  clear l9
  k_steps
end Mine
namespace Mine
theorem row0 : PySem.Challenge.rw_pb0086_01.Holds := s1.2 ⟨s2.2 ⟨s3.2 ⟨s4.2 ⟨s5.2 ⟨s6.2 ⟨s7⟩⟩ ⟨s8⟩⟩⟩⟩⟩
end Mine
theorem PySem.Challenge.cw_pb0086_01_holds : PySem.Challenge.rw_pb0086_01.Holds := by
  exact Mine.row0
