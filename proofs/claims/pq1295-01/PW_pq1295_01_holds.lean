import PyProof.Rows.All
import Wide.All
import OpenK.AllK
import Wide.FinOn
import Lean
import PySem.Challenge.RW_pq1295_01
open PySem PySem.W PyProof.Rows
set_option Elab.async false
set_option maxRecDepth 100000
set_option maxHeartbeats 8000000
namespace Mine
open_top hd for PySem.Challenge.rw_pq1295_01


theorem top_off : True := by
  w_top off
  trivial
def Hold (P : Prop) : Prop := P
structure Box (P : Prop) : Prop where
  out : P
theorem hold {P : Prop} (h : Hold P) : P := h
theorem unhold {P : Prop} (h : P) : Hold P := h
theorem size_of {vs : List Value} {ns : List Int} (h : IntsAre vs ns) (hz : ns.length ≤ 10000) : vs.toArray.size ≤ sizeLine := by
  rw [List.size_toArray, h.length, sizeLine_eq]; omega
theorem set_K {prog : Program} {w : World} {A : Around} {E : Value → Shared → Prop} {s : Shared} {h₀ : Heap} {L D : Addr} {m : Str → Option Value} {news news' : List (Addr × Obj)} {vs ws : List Value} {n : Nat} {k : Int} {t : Tok} {v : Value}
    {Q : Unit → Shared → Prop} (F : Fr h₀ L s.heap m) (N : News h₀ L s.heap news) (U : Upd D (W.listOf vs.toArray n) (W.listOf ws.toArray n) news news') (e : vs.set k.toNat v = ws) (hb : (decide (0 ≤ k) && decide (k < vs.length) && decide (k < 2 ^ 63)) = true)
    (h : ∀ h', Fr h₀ L h' m → News h₀ L h' news' → Q () { s with heap := h' }) :
    wpAny (model prog w) A (setItem (.ref D) (.int k t) v) Q E s := by
  subst e
  simp only [Bool.and_eq_true, decide_eq_true_eq] at hb
  obtain ⟨⟨h0, h1⟩, hfit⟩ := hb
  obtain ⟨pre, post, rfl, rfl, a, b⟩ := U.split
  have z := N (D, W.listOf vs.toArray n) (List.mem_append.mpr (.inr (.head _)))
  refine ki_setAt z.1 h0 hfit (by simp; omega) (h _ (F.change (Heap.SameBut.update ..) z.2.1 z.2.2) (ki_turn _ N a b ?_ ?_))
  · show vs.toArray.setIfInBounds k.toNat v = (vs.set k.toNat v).toArray
    apply Array.toList_inj.mp
    simp
  · simp
theorem nat_neg {i : Int} (h : i < 0) : (-i).toNat = i.natAbs := by
  cases i with
  | ofNat n => exact absurd h (Int.not_lt.mpr (Int.natCast_nonneg n))
  | negSucc n => rfl
theorem nat_pos {i : Int} (h : 0 ≤ i) : i.toNat = i.natAbs := by
  cases i with
  | ofNat n => rfl
  | negSucc n => exact absurd h (Int.not_le.mpr (Int.negSucc_lt_zero n))
theorem nat_sub (i : Int) : (0 - i).natAbs = i.natAbs := by rw [Int.zero_sub, Int.natAbs_neg]
theorem len_r {a b : Str} {l k : Nat} (h : a.length ≤ l) (e : b.length = k) (hb : Nat.ble (l + k) 10000 = true) : (a ++ b).length ≤ 10000 := by
  rw [Str.length_append, e]
  exact Nat.le_trans (Nat.add_le_add_right h k) (Nat.le_of_ble_eq_true hb)
theorem len_l {a b : Str} {l k : Nat} (h : b.length ≤ l) (e : a.length = k) (hb : Nat.ble (k + l) 10000 = true) : (a ++ b).length ≤ 10000 := by
  rw [Str.length_append, e]
  exact Nat.le_trans (Nat.add_le_add_left h k) (Nat.le_of_ble_eq_true hb)
theorem room {a k j l R : Nat} (h : a + l < R) (hj : Nat.ble (k + j) l = true) : a + k + j < R := by
  have := Nat.le_of_ble_eq_true hj
  omega
theorem room0 {a j l R : Nat} (h : a + l < R) (hj : Nat.ble j l = true) : a + j < R := by
  have := Nat.le_of_ble_eq_true hj
  omega
def CutEnd (V : Value → Prop) (s : Shared) (v : Value) (s' : Shared) : Prop := V v ∧ ∃ tk, s' = { s with toks := tk }
theorem ifcut {prog : Program} {w : World} {A : Around} {E : Value → Shared → Prop} {s : Shared} {e : PySem.Expr} {env : Env} {Q : Value → Shared → Prop} (V : Value → Prop)
    (h1 : wpAny (model prog w) A (eval e env) (CutEnd V s) E s) (h2 : ∀ v tk, V v → Q v { s with toks := tk }) : wpAny (model prog w) A (eval e env) Q E s :=
  wpAny_mono h1 (fun v s' ⟨a, tk, e⟩ => e ▸ h2 v tk a) (fun _ _ e => e)
abbrev tapeO (np : Addr) (i st : Int) (t1 t2 : Tok) : Obj := W.listOf [Value.ref np, Value.int i t1, Value.int st t2].toArray 0


section
open PySem.Calls PyProof.Rows.LCg
variable {prog : Program} {w : World} {A : Around} {E : Value → Shared → Prop} {s : Shared} {h₀ : Heap} {L : Addr} {m : Str → Option Value} {env : Env}
def SrcW (prog : Program) (w : World) (A : Around) (E : Value → Shared → Prop) (h₀ : Heap) (L : Addr) (m : Str → Option Value) (env : Env) (elt : Expr) (x : Str) (scope : Scope) (cl : List (Str × Addr)) (Q : Value → Shared → Prop) (xv : Value) (s₁ : Shared) : Prop :=
  ∃ (oI : Obj) (n : Nat) (P : Nat → Value → Prop) (St : Nat → Heap → Prop) (news : List (Addr × Obj)), A.handled = none ∧ Fr h₀ L s₁.heap m ∧ News h₀ L s₁.heap news ∧ n ≤ sizeLine ∧
    (∀ Q' : Value → Shared → Prop, Q' (.ref s₁.heap.objs.size) { s₁ with heap := s₁.heap.push oI } → wpAny (model prog w) A (pyIter xv) Q' E s₁) ∧
    Walks prog w A s₁.heap.objs.size [s₁.heap.objs.size] [s₁.heap.objs.size] n P St ∧ (∀ i h, St i h → ∃ o, h.get? s₁.heap.objs.size = some o) ∧ St 0 (s₁.heap.push oI) ∧
    ∀ s₂ : Shared, (∃ h, s₂ = { s₁ with heap := h }) → CompRest prog w A h₀ L m env elt x scope cl s₂ (fun _ => True) P (FinE h₀ L m s₂ Q) n 0 [] news
theorem ListComp_W {elt iter : Expr} {x : Str} {px : Pos} {scope : Scope} {cl : List (Str × Addr)} {pos : Pos} {Q : Value → Shared → Prop} (F₀ : Fr h₀ L s.heap m)
    (hclos : closureFor scope env = pure cl) (hcell : ∀ y ∈ scope.names, y.2 ≠ .cell) (hkind : scope.kind = .function)
    (hnames : ∀ y ∈ scope.names, y.2 = .local → scope.names.lookup y.1 = some .local) (hx : scope.names.lookup x = some .local)
    (h : wpAny (model prog w) A (eval iter env) (SrcW prog w A E h₀ L m env elt x scope cl Q) E s)
    (hs : ∀ x, foldedSetIterable iter env x = pure x := by intro _; rfl) :
    wpAny (model prog w) A (eval (.ListComp elt [⟨.Name x px, iter, [], 0⟩] scope pos) env) Q E s := by
  rw [eval_ListComp]
  refine wpAny_comprehension_free (use := none) rfl hs hclos hkind hnames (wpAny_mono h (fun xv s₁ h₁ => ?_) fun _ _ e => e)
  obtain ⟨oI, n, P, St, news, hh, F, N, hsz, hit, W, hIo, hst, R⟩ := h₁
  refine hit _ ?_
  refine block_U W hsz hIo (fun i h h' o nw st e e' _ _ _ => W.frame _ _ _ st fun b hb o' q => ?_) hcell hkind hx hst (fun b hb => ?_)
    (F.keeps fun _ _ e => Heap.get?_push_of_some _ e) (N.grown fun _ _ e => Heap.get?_push_of_some _ e) (Nat.ne_of_lt F.ns.lt) (next_is_new F) (fun p hp => Nat.ne_of_lt (Heap.lt_size (N p hp).1)) trivial (R _ ⟨_, rfl⟩) ?_
  · rw [List.mem_singleton.mp hb] at q ⊢
    rw [e] at q
    cases q
    exact e'
  · rw [List.mem_singleton.mp hb]
    show s₁.heap.objs.size < (s₁.heap.push _).objs.size
    rw [Heap.size_push]; exact Nat.lt_succ_self _
  · intro D C h tk m' ys news' F' N' o1 hn hC₀ hD₀ hCL hDL hCD offC fin
    refine ⟨m', hn, fun h'' hs'' => fin D h'' tk (F'.change hs'' hCL hC₀) (fun p hp => ?_) o1⟩
    refine ⟨hs''.extBut _ _ ?_ (N' p hp).1, (N' p hp).2⟩
    rcases List.mem_cons.mp hp with rfl | hp
    · exact Ne.symm hCD
    · exact offC p hp
theorem SrcW.str {elt : Expr} {x : Str} {scope : Scope} {cl : List (Str × Addr)} {Q : Value → Shared → Prop} {y : Str} {t : Tok} {news : List (Addr × Obj)} {s₁ : Shared}
    (hh : A.handled = none) (F : Fr h₀ L s₁.heap m) (N : News h₀ L s₁.heap news) (hsz : y.cps.size ≤ sizeLine)
    (R : ∀ g, CompRest prog w A h₀ L m env elt x scope cl { s₁ with heap := g } (fun _ => True) (SignAt y) (FinE h₀ L m { s₁ with heap := g } Q) y.cps.size 0 [] news) :
    SrcW prog w A E h₀ L m env elt x scope cl Q (.str y t) s₁ := by
  cases ha : y.cps.all (· < 128)
  · exact ⟨{ cls := .type "str_iterator", data := .fields #[.str y t, .int 0 0] }, _, _, _, news, hh, F, N, hsz, fun Q' h => wpAny_pyIter_wide ha h, Walks.strWide hh _ y t, fun i h st => let ⟨o, ho, _⟩ := st; ⟨o, ho⟩, ⟨_, Heap.get?_push_size _ rfl, rfl, rfl⟩, fun _ ⟨g, e⟩ => e ▸ R g⟩
  · exact ⟨{ cls := .type "str_ascii_iterator", data := .fields #[.str y t, .int 0 0] }, _, _, _, news, hh, F, N, hsz, fun Q' h => wpAny_pyIter_ascii ha h, Walks.strAscii hh _ y t, fun i h st => let ⟨o, ho, _⟩ := st; ⟨o, ho⟩, ⟨_, Heap.get?_push_size _ rfl, rfl, rfl⟩, fun _ ⟨g, e⟩ => e ▸ R g⟩
theorem SrcW.bytes {elt : Expr} {x : Str} {scope : Scope} {cl : List (Str × Addr)} {Q : Value → Shared → Prop} {b : Array UInt8} {t : Tok} {news : List (Addr × Obj)} {s₁ : Shared}
    (hh : A.handled = none) (F : Fr h₀ L s₁.heap m) (N : News h₀ L s₁.heap news) (hsz : b.size ≤ sizeLine)
    (R : ∀ g, CompRest prog w A h₀ L m env elt x scope cl { s₁ with heap := g } (fun _ => True) (fun i v => ∃ c u, b[i]? = some c ∧ v = .int (c.toNat : Int) u) (FinE h₀ L m { s₁ with heap := g } Q) b.size 0 [] news) :
    SrcW prog w A E h₀ L m env elt x scope cl Q (.bytes b t) s₁ :=
  ⟨{ cls := .type "bytes_iterator", data := .fields #[.bytes b t, .int 0 0] }, _, _, _, news, hh, F, N, hsz, fun Q' h => KBw.pyIter_bytes h, KBw.walks hh _ b t, fun i h st => let ⟨o, ho, _⟩ := st; ⟨o, ho⟩, ⟨_, Heap.get?_push_size _ rfl, rfl, rfl⟩, fun _ ⟨g, e⟩ => e ▸ R g⟩
theorem rest_gen {elt : Expr} {x : Str} {scope : Scope} {cl : List (Str × Addr)} {S : List (Addr × Obj) → Prop} {P : Nat → Value → Prop} {Fin : List Value → List (Addr × Obj) → Prop} {news : List (Addr × Obj)} {n : Nat} (Rel : Nat → Value → Prop)
    (turn : ∀ i v I oI C oC D m₂ ys h tk (E' : Value → Shared → Prop), i < n → P i v → ys.length = i → NsObj oC m₂ → m₂ x = some v → Fr h₀ L h m → News h₀ L h ((I, oI) :: (C, oC) :: (D, lst ys) :: news) → Off3 I C D news → ((@Ne Nat I C) ∧ (@Ne Nat I D) ∧ (@Ne Nat C D)) →
      wpAny (model prog w) A (eval elt (compEnvC scope cl C env)) (CompEnd h₀ L m { s with heap := h, toks := tk } I oI C oC D (lst ys) S (fun y news' => news' = news ∧ Rel i y)) E' { s with heap := h, toks := tk })
    (fin : ∀ ys, ys.length = n → (∀ i y, ys[i]? = some y → Rel i y) → Fin ys news) : CompRest prog w A h₀ L m env elt x scope cl s S P Fin n 0 [] news := by
  have key : ∀ (j i : Nat) (ys : List Value), i + j = n → ys.length = i → (∀ k y, ys[k]? = some y → Rel k y) → CompRest prog w A h₀ L m env elt x scope cl s S P Fin j i ys news := by
    intro j
    induction j with
    | zero =>
      intro i ys hi hl hy
      exact CompRest.zero (fin ys (by omega) hy)
    | succ j ih =>
      intro i ys hi hl hy
      refine CompRest.succ ?_
      intro v I oI C oC D m₂ h tk E' hv hC hx F N off ne
      refine wpAny_mono (turn i v I oI C oC D m₂ ys h tk E' (by omega) hv hl hC hx F N off ne) (fun y s₂ hq => ?_) fun _ _ e => e
      obtain ⟨h', tk', nw, e, F', N', off', hS, hn, hr⟩ := hq
      rw [hn] at N' off' hS
      refine ⟨h', tk', news, e, F', N', off', hS, ?_⟩
      refine ih (i + 1) _ (by omega) (by rw [List.length_append, hl]; rfl) ?_
      intro k y' hk
      rcases Nat.lt_or_ge k ys.length with hlt | hge
      · rw [List.getElem?_append_left hlt] at hk
        exact hy k y' hk
      · rw [List.getElem?_append_right hge] at hk
        rcases Nat.eq_zero_or_pos (k - ys.length) with h0 | h0
        · rw [h0] at hk
          cases hk
          have : k = i := by omega
          subst this
          exact hr
        · rw [List.getElem?_eq_none (by rw [List.length_singleton]; omega)] at hk
          cases hk
  exact key n 0 [] (by omega) rfl (fun _ _ h => by cases h)
end
theorem strsAre_of : ∀ {ys : List Value} {xs : List Str}, ys.length = xs.length → (∀ (i : Nat) y, ys[i]? = some y → ∃ x t, xs[i]? = some x ∧ y = Value.str x t) → StrsAre ys xs
  | [], [], _, _ => .nil
  | [], _ :: _, h, _ => by simp at h
  | _ :: _, [], h, _ => by simp at h
  | y :: ys, x :: xs, hl, h => by
    obtain ⟨x', t, e, rfl⟩ := h 0 y rfl
    cases e
    exact .cons _ _ (strsAre_of (by simpa using hl) fun i y' hy => h (i + 1) y' hy)
theorem intsAre_of : ∀ {ys : List Value} {xs : List Int}, ys.length = xs.length → (∀ (i : Nat) y, ys[i]? = some y → ∃ x t, xs[i]? = some x ∧ y = Value.int x t) → IntsAre ys xs
  | [], [], _, _ => .nil
  | [], _ :: _, h, _ => by simp at h
  | _ :: _, [], h, _ => by simp at h
  | y :: ys, x :: xs, hl, h => by
    obtain ⟨x', t, e, rfl⟩ := h 0 y rfl
    cases e
    exact .cons _ _ (intsAre_of (by simpa using hl) fun i y' hy => h (i + 1) y' hy)
theorem join_one : ∀ l : List Nat, Txt.join (Str.ofString "") (l.map fun c => (⟨#[c]⟩ : Str)) = ⟨l.toArray⟩ := by
  have e0 : Str.ofString "" = (⟨#[]⟩ : Str) := by decide
  have key : ∀ l : List Nat, Str.join (Str.ofString "") (l.map fun c => (⟨#[c]⟩ : Str)) = ⟨l.toArray⟩ := by
    intro l
    induction l with
    | nil => rfl
    | cons a r ih =>
      cases r with
      | nil => rfl
      | cons b r =>
        show (⟨#[a]⟩ : Str) ++ Str.ofString "" ++ Str.join (Str.ofString "") ((b :: r).map fun c => (⟨#[c]⟩ : Str)) = _
        rw [ih, e0]
        apply Str.ext'
        rw [Str.cps_append, Str.cps_append]
        simp
  intro l
  show Builtin.Str.glued _ _ = _
  rw [StrLaws.glued_eq_join, key]


def wholeF (a d : Int) : Int := 10 * a + d - 48
def wholeO (ns : List Int) : Option Int := if ns.length = 0 then none else if ns.all (fun d => decide (48 ≤ d ∧ d ≤ 57)) then some (ns.foldl wholeF 0) else none
def optV : Option Int → Tok → Value
  | none, _ => .none
  | some n, t => .int n t
def wholeP (pre : List Int) (a : Int) : Prop := a = pre.foldl wholeF 0 ∧ pre.all (fun d => decide (48 ≤ d ∧ d ≤ 57)) = true
theorem wholeP_step {pre : List Int} {a d : Int} (h : wholeP pre a) (h0 : 48 ≤ d) (h1 : d ≤ 57) : wholeP (pre ++ [d]) (10 * a + d - 48) := by
  refine ⟨?_, ?_⟩
  · rw [h.1, List.foldl_append]; rfl
  · rw [List.all_append, h.2]; simp [h0, h1]
theorem wholeO_end {ns : List Int} {a : Int} (h : wholeP ns a) (hn : ns.length ≠ 0) : wholeO ns = some a := by
  unfold wholeO
  rw [if_neg hn, if_pos h.2, h.1]
theorem wholeO_bad {ns pre post : List Int} {d : Int} (e : ns = pre ++ d :: post) (h : ¬ (48 ≤ d ∧ d ≤ 57)) : wholeO ns = none := by
  unfold wholeO
  split
  · rfl
  · rw [if_neg]
    intro hc
    have := List.all_eq_true.mp hc d (by rw [e]; simp)
    exact h (of_decide_eq_true this)
variable {w : World} {lo : List Str} {mean : ExcName → Option Value} {mg mb : Str → Option Value}
 {dp un : Nat} {gd : Option (List Code)} {cn : Str} {cs : Scope} {a : Addr} {ccd : Value} {cl : List (Str × Addr)} {outer : List Env} {A₀ : Around} {base h₀ : Heap} {L : Addr} {m : Str → Option Value} {s : Shared} {Q E : Value → Shared → Prop}
 {news rest : List (Addr × Obj)} {tp np : Addr} {vs : List Value} {ns : List Int}

section
local macro_rules | `(tactic| walk_at "pyIter ref") => `(tactic| refine hold ?_)
local macro_rules | `(tactic| walk_at "exec For Name Name cons nil") => `(tactic| refine hold ?_)
theorem whole_c {l : Addr} {nn : Nat} (B : Below A₀ base outer h₀) (F : Fr h₀ L s.heap m) (X : (hd.heap_39 w.params).In h₀) (N : News h₀ L s.heap ((l, W.listOf vs.toArray nn) :: news)) (T : Top hd.view_39 lo mean mg mb h₀) (hk : cs.kind = .function) (hd' : dp + 5 < recursionLimit) (hu : un + 40 < cLine) (hI : IntsAre vs ns) (hz : ns.length ≤ 10000) 
  (ret : ∀ (t : Tok) h' tk', Fr h₀ L h' m → News h₀ L h' ((l, W.listOf vs.toArray nn) :: news) → Q (optV (wholeO ns) t) { s with heap := h', toks := tk' }) : wpAny (model PySem.Challenge.rw_pq1295_01.row.prog w) (ktrTop dp un gd cn cs L a ccd cl outer) (call (.ref 59) [.ref l]) Q E s := by
  revert X
  k_fill
  intro X
  refine wpAny_call ?_
  k_dflt (refine' code_def (binds := [(Str.ofString "octets", .ref l)]) ?k1 ?k2 ?k3 ?k4 ?k5 ?kA ?kF ?kK ?k6 ?k7 ?k8 ?k9 ?kB ?_ ?c2 ?c3 ?c4 ?c5; (case kA => exact rfl); (case kF => exact rfl); (case kK => assumption); (case k1 => k_asm); (case k2 => k_asm); (case k3 => k_asm); (case k4 => k_asm); (case k5 => k_asm); (case k6 => k_is); (case k7 => k_is); (case k8 => ktr_room); (case k9 => exact BindsTo.of_eq rfl); (case c5 => decide); (case kB => exact locs rfl); (case c2 => exact rfl); (case c3 => exact rfl); (case c4 => exact rfl); k_whole; intro g' L' h' FG' F' N' B' X' T'; (try dsimp only); (try k_lift B'); (try k_fold))

  k_steps
  · rename (ns.length : Int) = 0 => h0
    rename Fr h₀ L _ _ => F2
    rename News h₀ L _ _ => N2
    have e : wholeO ns = none := by unfold wholeO; rw [if_pos (by omega)]
    rw [e] at ret
    exact ret 0 _ _ F2 N2
  · rename (ns.length : Int) ≠ 0 => hne
    refine unhold ?_
    rename Fr _ _ _ _ => lF'
    rename News _ _ _ _ => lN'
    with_unfolding_all refine' For_invVF lF' ?k1 ?k2 ?_
    case k1 => exact rfl
    case k2 => exact rfl
    k_steps
    refine unhold ?_
    refine' kst_listL (σ := Int × Tok) (nn := nn) (vs := vs) (ns := ns) (fun _ => (l, W.listOf vs.toArray nn) :: news) (fun c => [(Str.ofString "number", Value.int c.1 c.2)]) (fun _ => True) [] (fun pre c => wholeP pre c.1) (0, _) rfl (fun _ => List.Mem.head _) hI lF' lN' trivial ?hk ?hp ?turn ?done
    case hk => kst_all
    case hp => exact ⟨rfl, rfl⟩
    case turn =>
      rintro ⟨a, ta⟩ pre post n t u h tk own e _ _ _ hp F9 N9
      dsimp only at hp
      try k_fold
      k_steps
      · rename 48 ≤ n => ha
        rename n ≤ 57 => hb
        rename Fr g' L' _ _ => F8
        rename News g' L' _ _ => N8
        refine' kst_end (10 * a + n - 48, _) F8 N8 (fun p hp => List.mem_append_left own hp) (fun p hp => List.mem_append_right _ hp) rfl trivial ?hk ?hr (wholeP_step hp ha hb)
        case hk => kst_all
        case hr =>
          intro z h1 h2 _
          have h4 : z ≠ Str.ofString "number" := h2 _ (.head _)
          simp [kstB, h1, h4]
      all_goals
        rename Fr h₀ L _ _ => F2
        rename News h₀ L _ _ => N2
        have ez : wholeO ns = none := wholeO_bad e (by omega)
        rw [ez] at ret
        exact ret 0 _ _ F2 (fun p hp => N2 p (List.mem_append_left own hp))
    case done =>
      rintro ⟨a, ta⟩ u h tk _ hp F9 N9
      dsimp only at hp ⊢
      try k_fold
      k_steps
      rename Fr h₀ L _ _ => F2
      rename News h₀ L _ _ => N2
      rw [wholeO_end hp (by omega)] at ret
      exact ret _ _ _ F2 N2
end


def digR (n : Nat) : List Int := (48 + (n : Int) % 10) :: (if n / 10 = 0 then [] else digR (n / 10))
termination_by n
decreasing_by omega
def decP (n : Int) (ns : List Int) (r : Int) : Prop := 0 ≤ r ∧ digR n.toNat = ns ++ (if r = 0 then [] else digR r.toNat)
theorem decP_start {n : Int} (h : 0 ≤ n) : decP n [48 + n.fmod 10] (n.fdiv 10) := by
  obtain ⟨k, rfl⟩ := Int.eq_ofNat_of_zero_le h
  have e1 : (k : Int).fdiv 10 = ((k / 10 : Nat) : Int) := by rw [Int.fdiv_eq_ediv_of_nonneg _ (by decide)]; rfl
  have e2 : (k : Int).fmod 10 = (k : Int) % 10 := Int.fmod_eq_emod_of_nonneg _ (by decide)
  refine ⟨by rw [e1]; omega, ?_⟩
  rw [e1, e2, Int.toNat_natCast, Int.toNat_natCast]
  rw [digR]
  by_cases h0 : k / 10 = 0
  · rw [if_pos h0, if_pos (by rw [h0]; rfl)]; rfl
  · rw [if_neg h0, if_neg (by omega)]; rfl
theorem decP_step {n r : Int} {ns : List Int} (h : decP n ns r) (hr : 0 < r) : decP n (ns ++ [48 + r.fmod 10]) (r.fdiv 10) := by
  have hs := decP_start (n := r) h.1
  refine ⟨hs.1, ?_⟩
  rw [h.2, if_neg (by omega), hs.2, List.append_assoc]
theorem decP_len {n r : Int} {ns : List Int} (h : decP n ns r) (hz : (digR n.toNat).length ≤ 10000) : ns.length ≤ 10000 := by
  have := congrArg List.length h.2
  rw [List.length_append] at this
  omega
theorem decP_end {n r : Int} {ns : List Int} (h : decP n ns r) (hr : ¬ 0 < r) : ns = digR n.toNat := by
  rw [h.2, if_pos (by have := h.1; omega), List.append_nil]
theorem digR_mem (n : Nat) : ∀ x ∈ digR n, 48 ≤ x ∧ x ≤ 57 := by
  induction n using Nat.strongRecOn with
  | _ n ih =>
    intro x hx
    rw [digR] at hx
    rcases List.mem_cons.mp hx with rfl | hx
    · omega
    · by_cases h0 : n / 10 = 0
      · rw [if_pos h0] at hx; cases hx
      · rw [if_neg h0] at hx; exact ih (n / 10) (by omega) x hx
theorem append_Z {prog : Program} {w : World} {A : Around} {E : Value → Shared → Prop} {s : Shared} {h₀ : Heap} {L D : Addr} {m : Str → Option Value} {news news' : List (Addr × Obj)} {its : Array Value} {n : Nat} {x : Value} {Q : Value → Shared → Prop}
    (F : Fr h₀ L s.heap m) (N : News h₀ L s.heap news) (U : Upd D (W.listOf its n) (W.listOf (its.push x) (n + 1)) news news') (hsz : its.size ≤ sizeLine)
    (h : ∀ h', Fr h₀ L h' m → News h₀ L h' news' → Q .none { s with heap := h' }) : wpAny (model prog w) A (call (.builtin "list.append") [.ref D, x]) Q E s := append_K F N U h hsz

local macro_rules | `(tactic| k_all) => `(tactic| assumption)
section
local macro_rules | `(tactic| walk_at "exec While Compare cons nil") => `(tactic| refine hold ?_)
local macro_rules | `(tactic| walk_at "zz c") => `(tactic| first | with_reducible assumption | with_reducible exact rfl | assumption | (intro o'; k_upd) | k_mem | exact rfl | ((try dsimp only [Around.deeper, ktrTop]); first | (apply room; assumption; exact rfl) | (apply room0; assumption; exact rfl) | decide) | omega | (apply eq_of_beq; assumption))
local macro_rules | `(tactic| walk_at "zz e") => `(tactic| k_dflt (walk_at "zz c"))
local macro_rules | `(tactic| walk_at "zz s") => `(tactic| (intros; (try k_sweep)))
local macro_rules | `(tactic| walk_at "call builtin:list.append") => `(tactic| (k_here; with_reducible apply append_Z; (iterate 2 walk_at "zz e"); k_dflt k_upd; walk_at "zz e"; walk_at "zz s"))
local macro_rules | `(tactic| walk_at "call type:bytes") => `(tactic| (k_here; refine hold ?_))
theorem octs_c {n : Int} {tn : Tok} (B : Below A₀ base outer h₀) (F : Fr h₀ L s.heap m) (X : (hd.heap_39 w.params).In h₀) (N : News h₀ L s.heap (news)) (T : Top hd.view_39 lo mean mg mb h₀) (hk : cs.kind = .function) (hd' : dp + 5 < recursionLimit) (hu : un + 40 < cLine) (h0 : 0 ≤ n) (hz : (digR n.toNat).length ≤ 10000)
  (ret : ∀ (t : Tok) h' tk', Fr h₀ L h' m → News h₀ L h' news → Q (Value.bytes ((digR n.toNat).reverse.map fun n => n.toNat.toUInt8).toArray t) { s with heap := h', toks := tk' }) : wpAny (model PySem.Challenge.rw_pq1295_01.row.prog w) (ktrTop dp un gd cn cs L a ccd cl outer) (call (.ref 66) [.int n tn]) Q E s := by
  revert X
  k_fill
  intro X
  refine wpAny_call ?_
  k_dflt (refine' code_def (binds := [(Str.ofString "number", .int n tn)]) ?k1 ?k2 ?k3 ?k4 ?k5 ?kA ?kF ?kK ?k6 ?k7 ?k8 ?k9 ?kB ?_ ?c2 ?c3 ?c4 ?c5; (case kA => exact rfl); (case kF => exact rfl); (case kK => assumption); (case k1 => k_asm); (case k2 => k_asm); (case k3 => k_asm); (case k4 => k_asm); (case k5 => k_asm); (case k6 => k_is); (case k7 => k_is); (case k8 => ktr_room); (case k9 => exact BindsTo.of_eq rfl); (case c5 => decide); (case kB => exact locs rfl); (case c2 => exact rfl); (case c3 => exact rfl); (case c4 => exact rfl); k_whole; intro g' L' h' FG' F' N' B' X' T'; (try dsimp only); (try k_lift B'); (try k_fold))

  k_steps
  refine unhold ?_
  rename ∀ p ∈ news, _ => hl
  rename News _ _ _ _ => N9
  rename Fr _ _ _ _ => F9
  have hnl := fun p hp => Nat.ne_of_lt (hl p hp)
  refine' ksw_while (σ := List Value × List Int × Nat × Int × Tok) (fun c => (_, W.listOf c.1.toArray c.2.2.1) :: news) (fun c => [(Str.ofString "rest", Value.int c.2.2.2.1 c.2.2.2.2)]) (fun c => IntsAre c.1 c.2.1) [] (fun c => decP n c.2.1 c.2.2.2.1) (fun c => c.2.2.2.1.toNat) ([_], [_], 0, n.fdiv 10, _) F9 N9 ?hf ?hk ?hp ?turn
  case hf => exact IntsAre.cons _ _ IntsAre.nil
  case hk => kst_all
  case hp => exact decP_start h0
  case turn =>
    clear N9 F9
    rintro ⟨vs, ns, k, r, t⟩ u h tk hf hp F9 N9
    dsimp only at hf hp N9
    k_fold
    have hsz := size_of hf (decP_len hp hz)
    k_steps
    · rename 0 < r => hr
      rename News _ _ _ _ => N8
      rename Fr _ _ _ _ => F8
      (try simp only [List.push_toArray] at N8)
      refine ksw_end (vs ++ [_], ns ++ [48 + r.fmod 10], k + 1, r.fdiv 10, _) F8 N8 (fun _ h => h) (hf.append (IntsAre.cons _ _ IntsAre.nil)) (by kst_all) (by intro z h2 _; have h4 : z ≠ Str.ofString "rest" := h2 _ (.head _); simp [kstB, h4]) (decP_step hp hr) ?_
      have e1 : r.fdiv 10 = r / 10 := Int.fdiv_eq_ediv_of_nonneg _ (by decide)
      show (r.fdiv 10).toNat < r.toNat
      rw [e1]; omega
    · rename ¬ 0 < r => hr
      refine unhold ?_
      rename IntsAre _ ns.reverse => hI
      have hns := decP_end hp hr
      have hb : ∀ x ∈ ns.reverse, 0 ≤ x ∧ x < 256 := by
        intro x hx
        have := digR_mem n.toNat x (hns ▸ List.mem_reverse.mp hx)
        omega
      have hz' : _ := size_of hI (by rw [List.length_reverse, hns]; exact hz)
      rw [List.size_toArray] at hz'
      rename News _ _ _ _ => N8
      rename Fr _ _ _ _ => F8
      refine bytes_K F8 N8 (News.isList N8 (.head _)) hI hb hz' rfl ?_
      intro h1 t1 k1 F1 N1 _
      clear F8 N8
      k_steps
      rename Fr h₀ L _ _ => F2
      rename News h₀ L _ _ => N2
      rw [hns]
      exact ret _ _ _ F2 (fun p hp => N2 p (.tail _ (.tail _ hp)))
end


local macro_rules | `(tactic| walk_at "zz c") => `(tactic| first | with_reducible assumption | with_reducible exact rfl | assumption | (intro o'; k_upd) | k_mem | exact rfl | ((try dsimp only [Around.deeper, ktrTop]); first | (apply room; assumption; exact rfl) | (apply room0; assumption; exact rfl) | decide) | (apply len_r; assumption; assumption; exact rfl) | (apply len_l; assumption; assumption; exact rfl) | omega | (apply eq_of_beq; assumption))
local macro_rules | `(tactic| walk_at "zz e") => `(tactic| k_dflt (walk_at "zz c"))
local macro_rules | `(tactic| walk_at "zz s") => `(tactic| (intros; (try k_sweep)))
local macro_rules | `(tactic| walk_at "setItem ref int") => `(tactic| (k_here; with_reducible apply set_K; (iterate 2 walk_at "zz e"); k_dflt k_upd; (iterate 2 walk_at "zz e"); walk_at "zz s"))
theorem draw_c {nn : Nat} {i st many : Int} {t1 t2 tm : Tok} (B : Below A₀ base outer h₀) (F : Fr h₀ L s.heap m) (X : (hd.heap_39 w.params).In h₀) (N : News h₀ L s.heap ((tp, tapeO np i st t1 t2) :: (np, W.listOf vs.toArray nn) :: rest)) (T : Top hd.view_39 lo mean mg mb h₀) (hk : cs.kind = .function) (hd' : dp + 5 < recursionLimit) (hu : un + 40 < cLine)
  (hI : IntsAre vs ns) (hlen : ns.length ≤ 60) (hi : 0 ≤ i) (hs0 : 0 ≤ st) (hs1 : st < 997) (hm : 0 < many)
  (hne : @Ne Nat tp np) (h2 : ∀ p ∈ rest, p.1 ≠ tp)
  (ret : ∀ (r i' st' : Int) (t t1' t2' : Tok) h' tk', Fr h₀ L h' m → News h₀ L h' ((tp, tapeO np i' st' t1' t2') :: (np, W.listOf vs.toArray nn) :: rest) → 0 ≤ r → r < many → 0 ≤ i' → 0 ≤ st' → st' < 997 → Q (.int r t) { s with heap := h', toks := tk' }) :
  wpAny (model PySem.Challenge.rw_pq1295_01.row.prog w) (ktrTop dp un gd cn cs L a ccd cl outer) (call (.ref 113) [.ref tp, .int many tm]) Q E s := by
  revert X
  k_fill
  intro X
  refine wpAny_call ?_
  k_dflt (refine' code_def (binds := [(Str.ofString "tape", .ref tp), (Str.ofString "many", .int many tm)]) ?k1 ?k2 ?k3 ?k4 ?k5 ?kA ?kF ?kK ?k6 ?k7 ?k8 ?k9 ?kB ?_ ?c2 ?c3 ?c4 ?c5; (case kA => exact rfl); (case kF => exact rfl); (case kK => assumption); (case k1 => k_asm); (case k2 => k_asm); (case k3 => k_asm); (case k4 => k_asm); (case k5 => k_asm); (case k6 => k_is); (case k7 => k_is); (case k8 => ktr_room); (case k9 => exact BindsTo.of_eq rfl); (case c5 => decide); (case kB => exact locs rfl); (case c2 => exact rfl); (case c3 => exact rfl); (case c4 => exact rfl); k_whole; intro g' L' h' FG' F' N' B' X' T'; (try dsimp only); (try k_lift B'); (try k_fold))

  k_steps
  all_goals
    rename Fr h₀ L _ _ => F2
    rename News h₀ L _ _ => N2
    refine ret _ _ _ _ _ _ _ _ F2 N2 ?_ ?_ ?_ ?_ ?_
    · exact Int.fmod_nonneg_of_pos _ hm
    · exact Int.fmod_lt_of_pos _ hm
    · omega
    · exact Int.fmod_nonneg_of_pos _ (by decide)
    · exact Int.fmod_lt_of_pos _ (by decide)


theorem one_sum : ∀ l : List UInt8, ((l.map fun c => (⟨#[c.toNat]⟩ : Str)).map (·.length)).sum = l.length
  | [] => rfl
  | a :: r => by
    have ih := one_sum r
    simp only [List.map_cons, List.sum_cons, List.length_cons] at ih ⊢
    rw [ih]; show 1 + _ = _; omega
theorem bInts_mem {l : List UInt8} (h0 : ∀ c ∈ l, c.toNat ≤ 127) {pre post : List Int} {n : Int} (e : KBw.bInts l.toArray = pre ++ n :: post) : n ≤ 127 := by
  have hm : n ∈ KBw.bInts l.toArray := by rw [e]; simp
  rw [KBw.ints_list] at hm
  obtain ⟨c, hc, rfl⟩ := List.mem_map.mp hm
  have := h0 c hc
  omega
section
local macro_rules | `(tactic| walk_at "eval ListComp") => `(tactic| refine hold ?_)
local macro_rules | `(tactic| walk_at "exec For Name Name cons nil") => `(tactic| refine hold ?_)
theorem ascii_c {l : List UInt8} {tn : Tok} (B : Below A₀ base outer h₀) (F : Fr h₀ L s.heap m) (X : (hd.heap_39 w.params).In h₀) (N : News h₀ L s.heap (news)) (T : Top hd.view_39 lo mean mg mb h₀) (hk : cs.kind = .function) (hd' : dp + 5 < recursionLimit) (hu : un + 40 < cLine) (h0 : ∀ c ∈ l, c.toNat ≤ 127) (hz : l.length ≤ 10000)
  (ret : ∀ (t : Tok) h' tk', Fr h₀ L h' m → News h₀ L h' news → Q (Value.str ⟨(l.map (fun c => c.toNat)).toArray⟩ t) { s with heap := h', toks := tk' }) : wpAny (model PySem.Challenge.rw_pq1295_01.row.prog w) (ktrTop dp un gd cn cs L a ccd cl outer) (call (.ref 52) [.bytes l.toArray tn]) Q E s := by
  revert X
  k_fill
  intro X
  refine wpAny_call ?_
  k_dflt (refine' code_def (binds := [(Str.ofString "octets", .bytes l.toArray tn)]) ?k1 ?k2 ?k3 ?k4 ?k5 ?kA ?kF ?kK ?k6 ?k7 ?k8 ?k9 ?kB ?_ ?c2 ?c3 ?c4 ?c5; (case kA => exact rfl); (case kF => exact rfl); (case kK => assumption); (case k1 => k_asm); (case k2 => k_asm); (case k3 => k_asm); (case k4 => k_asm); (case k5 => k_asm); (case k6 => k_is); (case k7 => k_is); (case k8 => ktr_room); (case k9 => exact BindsTo.of_eq rfl); (case c5 => decide); (case kB => exact locs rfl); (case c2 => exact rfl); (case c3 => exact rfl); (case c4 => exact rfl); k_whole; intro g' L' h' FG' F' N' B' X' T'; (try dsimp only); (try k_lift B'); (try k_fold))

  k_steps
  refine unhold ?_
  rename Fr _ _ _ _ => lF'
  rename News _ _ _ _ => lN'
  with_unfolding_all refine' For_invVF lF' ?k1 ?k2 ?_
  case k1 => exact rfl
  case k2 => exact rfl
  k_steps
  refine' KStb.kst_bytes (σ := Unit) (fun _ => news) (fun _ => []) (fun _ => True) [] (fun _ _ => True) () rfl rfl rfl lF' lN' trivial (List.forall_mem_nil _) trivial ?turn ?done
  case turn =>
    intro _ pre post n t u h tk own e _ hn0 _ _ _ _ F9 N9
    try k_fold
    have hn := bInts_mem h0 e
    k_steps
    refine kst_end () F9 N9 (fun p hp => List.mem_append_left _ hp) (fun p hp => List.mem_append_right _ hp) rfl trivial (List.forall_mem_nil _) (fun z h1 _ _ => ?_) trivial
    simp [h1, kstB]
  case done =>
    intro _ u h tk _ _ _ F9 N9
    dsimp only
    try k_fold
    k_steps
    refine unhold ?_
    refine ListComp_W (F₀ := by k_asm) (by with_unfolding_all rfl) (by decide) (by rfl) (by decide) (by rfl) ?_
    k_steps
    refine SrcW.bytes rfl F9 N9 (by rw [List.size_toArray, sizeLine_eq]; omega) (fun g => ?_)
    refine rest_gen (fun i y => ∃ x t, (l.map fun c => (⟨#[c.toNat]⟩ : Str))[i]? = some x ∧ y = .str x t) ?_ ?_
    · rintro i v I oI C oC D m₂ ys h tk E' hi ⟨c, u, hc, rfl⟩ hyl hC hx F' N' off ne
      have hc1 : (c.toNat : Int) < 256 := by have := c.toNat_lt; omega
      k_steps
      refine LCg.CompEnd.intro F' N' news (fun p hp => hp) off trivial ⟨rfl, ⟨#[c.toNat]⟩, _, ?_, by rw [Int.toNat_natCast]⟩
      have hc' : l[i]? = some c := by simpa using hc
      rw [List.getElem?_map, hc']; rfl
    · intro ys hl hr D h tk F' N' off
      k_steps
      have hs := strsAre_of (by rw [hl, List.size_toArray, List.length_map]) hr
      refine join_list (items := ys.toArray) (News.isList N' (.head _)) hs ?_ ?_
      · have e1 := one_sum l
        have e2 : (Str.ofString "").length = 0 := by decide
        rw [e1, e2]; omega
      · intro t' k
        k_steps
        rename Fr h₀ L _ _ => F2
        rename News h₀ L _ _ => N2
        have ej := join_one (l.map fun c => c.toNat)
        rw [List.map_map] at ej
        rw [show (fun c : UInt8 => (⟨#[c.toNat]⟩ : Str)) = (fun c => (⟨#[c]⟩ : Str)) ∘ (fun c : UInt8 => c.toNat) from rfl, ej]
        exact ret _ _ _ F2 (fun p hp => N2 p (.tail _ hp))
end


def wholeS (p : Str) : Option Int := wholeO (p.cps.toList.map fun c : Nat => Int.ofNat c)
def numOf (less : Bool) : List (Option Int) → Option (Int × Int)
  | [some a] => some (if less then 0 - a else a, 1)
  | [some a, some b] => if b = 0 then none else some (if less then 0 - a else a, b)
  | _ => none
def numR (x : Str) : Option (Int × Int) :=
  let sg := Txt.stripChars x (Str.ofString " ")
  let less := Txt.slice sg none (some 1) == Str.ofString "-"
  numOf less ((Txt.split (Txt.slice sg (some (if less = true then 1 else 0)) none) (Str.ofString "/")).map wholeS)
open PySem.SeqAt in
theorem eq_none_none {A : Around} {s : Shared} : EqAt A s .none .none true := fun prog w E Q h => by
  unfold eqBool
  refine wpAny_holding ?_
  exact wpAny_ite_split (fun _ => wpAny_bind (wpAny_rule (wpAny_pure h))) (fun hab => absurd rfl hab)
def isNoneV : Value → Bool
  | .none => true
  | _ => false
open PySem.SeqAt in
theorem eq_opt {A : Around} {s : Shared} (o : Option Int) (t : Tok) : EqAt A s (optV o t) .none (isNoneV (optV o t)) := by
  cases o with
  | none => exact eq_none_none
  | some a => exact EqAt.int_none a t
theorem optsAre {ys : List Value} {os : List (Option Int)} (hr : ∀ (i : Nat) y, ys[i]? = some y → ∃ o t, os[i]? = some o ∧ y = optV o t) : ∀ y ∈ ys, ∃ o t, o ∈ os ∧ y = optV o t := by
  intro y hy
  obtain ⟨i, hi⟩ := List.getElem?_of_mem hy
  obtain ⟨o, t, ho, rfl⟩ := hr i y hi
  exact ⟨o, t, List.mem_of_getElem? ho, rfl⟩
theorem any_opt {ys : List Value} {os : List (Option Int)} (hl : ys.length = os.length) (hr : ∀ (i : Nat) y, ys[i]? = some y → ∃ o t, os[i]? = some o ∧ y = optV o t) : ys.toArray.any isNoneV = os.any (·.isNone) := by
  rw [List.any_toArray]
  induction ys generalizing os with
  | nil => cases os with
    | nil => rfl
    | cons _ _ => simp at hl
  | cons y ys ih => cases os with
    | nil => simp at hl
    | cons o os =>
      obtain ⟨o', t, e, rfl⟩ := hr 0 y rfl
      cases e
      rw [List.any_cons, List.any_cons, ih (by simpa using hl) fun i y' hy => hr (i + 1) y' hy]
      cases o <;> rfl
theorem numR_less {x : Str} (h : (Txt.slice (Txt.stripChars x (Str.ofString " ")) none (some 1) == Str.ofString "-") = true) : numR x = numOf true ((Txt.split (Txt.slice (Txt.stripChars x (Str.ofString " ")) (some 1) none) (Str.ofString "/")).map wholeS) := by
  unfold numR; simp only [h, if_true]
theorem numR_not {x : Str} (h : (Txt.slice (Txt.stripChars x (Str.ofString " ")) none (some 1) == Str.ofString "-") = false) : numR x = numOf false ((Txt.split (Txt.slice (Txt.stripChars x (Str.ofString " ")) (some 0) none) (Str.ofString "/")).map wholeS) := by
  unfold numR; simp only [h, Bool.false_eq_true, if_false]
theorem numR_def (x : Str) : numR x = numOf (Txt.slice (Txt.stripChars x (Str.ofString " ")) none (some 1) == Str.ofString "-") ((Txt.split (Txt.slice (Txt.stripChars x (Str.ofString " ")) (some (if (Txt.slice (Txt.stripChars x (Str.ofString " ")) none (some 1) == Str.ofString "-") = true then 1 else 0)) none) (Str.ofString "/")).map wholeS) := rfl
theorem ne_true_of {b : Bool} (h : b = false) : ¬ b = true := by rw [h]; exact Bool.false_ne_true
theorem numOf_a1 {b : Bool} {a : Int} (h : b = true) : numOf b [some a] = some (0 - a, 1) := by rw [h]; rfl
theorem numOf_a0 {b : Bool} {a : Int} (h : b = false) : numOf b [some a] = some (a, 1) := by rw [h]; rfl
theorem numOf_b1 {b : Bool} {a c : Int} (h : b = true) (hc : ¬ c = 0) : numOf b [some a, some c] = some (0 - a, c) := by rw [h]; show (if c = 0 then none else _) = _; rw [if_neg hc]; rfl
theorem numOf_b0 {b : Bool} {a c : Int} (h : b = false) (hc : ¬ c = 0) : numOf b [some a, some c] = some (a, c) := by rw [h]; show (if c = 0 then none else _) = _; rw [if_neg hc]; rfl
theorem numOf_bz {b : Bool} {a c : Int} (hc : c = 0) : numOf b [some a, some c] = none := by show (if c = 0 then none else _) = _; rw [if_pos hc]
theorem news_sub2 {h₀ : Heap} {L : Addr} {h : Heap} {a b : Addr × Obj} {l : List (Addr × Obj)} (N : News h₀ L h (a :: b :: l)) : News h₀ L h (a :: l) := fun p hp => N p (by
  rcases List.mem_cons.mp hp with e | hp
  · rw [e]; exact .head _
  · exact .tail _ (.tail _ hp))
theorem allLt_mem {d : Addr} (l : List (Addr × Obj)) : AllLt d l → ∀ p ∈ l, p.1 < d := by
  induction l with
  | nil => intro _ p hp; cases hp
  | cons q r ih =>
    intro h p hp
    rcases List.mem_cons.mp hp with e | hp
    · rw [e]; exact h.1
    · exact ih h.2 p hp
theorem numOf_big {b : Bool} {os : List (Option Int)} (h : 2 < os.length) : numOf b os = none := by
  rcases os with _ | ⟨o, _ | ⟨o2, _ | ⟨o3, r⟩⟩⟩
  · exact absurd h (by decide)
  · exact absurd h (by show ¬ 2 < 1; decide)
  · exact absurd h (by show ¬ 2 < 2; decide)
  · cases o with
    | none => rfl
    | some a => cases o2 <;> rfl
theorem numOf_no {b : Bool} {os : List (Option Int)} (h1 : ¬ 2 < os.length) (h2 : os.any (·.isNone) = true) : numOf b os = none := by
  rcases os with _ | ⟨o, _ | ⟨o2, _ | ⟨o3, r⟩⟩⟩
  · exact absurd h2 Bool.false_ne_true
  · cases o with
    | none => rfl
    | some a => exact absurd h2 Bool.false_ne_true
  · cases o with
    | none => rfl
    | some a =>
      cases o2 with
      | none => rfl
      | some c => exact absurd h2 Bool.false_ne_true
  · exact absurd (Nat.le_add_left 3 r.length) h1
theorem numOf_cases {os : List (Option Int)} (h1 : ¬ 2 < os.length) (h2 : os.any (·.isNone) = false) (h3 : 1 ≤ os.length) : (∃ a, os = [some a]) ∨ ∃ a b, os = [some a, some b] := by
  rcases os with _ | ⟨o, _ | ⟨o2, _ | ⟨o3, r⟩⟩⟩
  · exact absurd h3 (by decide)
  · cases o with
    | none => exact absurd h2.symm Bool.false_ne_true
    | some a => exact .inl ⟨a, rfl⟩
  · cases o with
    | none => exact absurd h2.symm Bool.false_ne_true
    | some a =>
      cases o2 with
      | none => exact absurd h2.symm Bool.false_ne_true
      | some c => exact .inr ⟨a, c, rfl⟩
  · exact absurd (Nat.le_add_left 3 r.length) h1
theorem ys_one {ys : List Value} {a : Int} (hl : ys.length = [some a].length) (hr : ∀ (i : Nat) y, ys[i]? = some y → ∃ o t, [some a][i]? = some o ∧ y = optV o t) : ∃ t, ys = [Value.int a t] := by
  cases ys with
  | nil => exact absurd hl (by show ¬ 0 = 1; decide)
  | cons y r =>
    cases r with
    | cons z r => exact absurd (Nat.succ.inj hl) (Nat.succ_ne_zero _)
    | nil =>
      obtain ⟨o, t, e, rfl⟩ := hr 0 y rfl
      cases e
      exact ⟨t, rfl⟩
theorem ys_two {ys : List Value} {a b : Int} (hl : ys.length = [some a, some b].length) (hr : ∀ (i : Nat) y, ys[i]? = some y → ∃ o t, [some a, some b][i]? = some o ∧ y = optV o t) : ∃ t u, ys = [Value.int a t, Value.int b u] := by
  cases ys with
  | nil => exact absurd hl (by show ¬ 0 = 2; decide)
  | cons y r =>
    obtain ⟨t, rfl⟩ := ys_one (ys := r) (a := b) (Nat.succ.inj hl) (fun i y' h => hr (i + 1) y' h)
    obtain ⟨o, u, e, rfl⟩ := hr 0 y rfl
    cases e
    exact ⟨u, t, rfl⟩
open PySem.SeqAt in
theorem in_opts {prog : Program} {w : World} {A : Around} {E : Value → Shared → Prop} {s : Shared} {D : Addr} {ys : List Value} {os : List (Option Int)} {b : Bool} {Q : Value → Shared → Prop} (hl : s.heap.IsList D ys.toArray) (he : ∀ y ∈ ys, ∃ o t, o ∈ os ∧ y = optV o t) (hb : ys.toArray.any isNoneV = b)
    (h : Q (.bool b) s) : wpAny (model prog w) A (compareOp .In .none (.ref D)) Q E s := by
  subst hb
  refine in_listAt isNoneV hl (fun y hy => ?_) h
  obtain ⟨o, t, _, rfl⟩ := he y (by simpa using hy)
  exact eq_opt o t
theorem len_news {prog : Program} {w : World} {A : Around} {E : Value → Shared → Prop} {s : Shared} {h₀ : Heap} {L D : Addr} {news : List (Addr × Obj)} {its : Array Value} {n : Nat} {d : Option Addr} {sl : Array (Option Value)} {k : Int} {Q : Value → Shared → Prop} (N : News h₀ L s.heap news) (hm : (D, { cls := .type "list", dict := d, data := .seq its n, slots := sl }) ∈ news) (hk : (its.size : Int) = k) (hz : k ≤ 16384)
    (h : Q (.int k (s.toks + 1)) { s with toks := s.toks + 1 + 1 }) : wpAny (model prog w) A (call (.builtin "len") [.ref D]) Q E s := kun_lenL (News.isList N hm) hk hz h
theorem in_news {prog : Program} {w : World} {A : Around} {E : Value → Shared → Prop} {s : Shared} {h₀ : Heap} {L D : Addr} {news : List (Addr × Obj)} {ys : List Value} {n : Nat} {d : Option Addr} {sl : Array (Option Value)} {os : List (Option Int)} {b : Bool} {Q : Value → Shared → Prop} (N : News h₀ L s.heap news) (hm : (D, { cls := .type "list", dict := d, data := .seq ys.toArray n, slots := sl }) ∈ news) (he : Box (∀ y ∈ ys, ∃ o t, o ∈ os ∧ y = optV o t)) (hb : Box (ys.toArray.any isNoneV = b))
    (h : Q (.bool b) s) : wpAny (model prog w) A (compareOp .In .none (.ref D)) Q E s := in_opts (News.isList N hm) he.out hb.out h


def TapeO (tp np : Addr) (o : Obj) : Prop := ∃ i st t1 t2, o = tapeO np i st t1 t2 ∧ 0 ≤ i ∧ 0 ≤ st ∧ st < 997 ∧ @Ne Nat tp np
def NumsO (nums : Obj) : Prop := ∃ vs ns k, nums = W.listOf (List.toArray vs) k ∧ IntsAre vs ns ∧ ns.length ≤ 60
theorem upd_lift {h₀ : Heap} {L : Addr} {h : Heap} {news : List (Addr × Obj)} {nw : Obj → List (Addr × Obj)} {tp np : Addr} {o nums : Obj} (N : News h₀ L h news) (U : ∀ o', Upd tp o o' news (nw o')) (hn : (np, nums) ∈ news) (hne : @Ne Nat tp np) :
    ∃ rest, News h₀ L h ((tp, o) :: (np, nums) :: rest) ∧ (∀ p ∈ rest, p.1 ≠ tp) ∧ (∀ o' h' ex, News h₀ L h' (ex ++ (tp, o') :: (np, nums) :: rest) → News h₀ L h' (ex ++ nw o')) ∧ ∀ o' (r : Addr), (∀ p ∈ (tp, o') :: (np, nums) :: rest, p.1 < r) → ∀ p ∈ nw o', p.1 < r := by
  obtain ⟨pre, post, e, _, a, b⟩ := (U o).split
  have key : ∀ o' p, p ∈ nw o' → p ∈ (tp, o') :: (np, nums) :: (pre ++ post) := by
    intro o' p hp
    obtain ⟨pre', post', e1, e2, a', b'⟩ := (U o').split
    have hcase : p = (tp, o') ∨ p ∈ pre' ++ post' := by
      rw [e2] at hp
      rcases List.mem_append.mp hp with hp | hp
      · exact .inr (List.mem_append.mpr (.inl hp))
      · rcases List.mem_cons.mp hp with hp | hp
        · exact .inl hp
        · exact .inr (List.mem_append.mpr (.inr hp))
    rcases hcase with rfl | hp
    · exact .head _
    · have hne' : p.1 ≠ tp := by
        rcases List.mem_append.mp hp with hp | hp
        · exact a' p hp
        · exact b' p hp
      have hin : p ∈ news := by
        rw [e1]
        rcases List.mem_append.mp hp with hp | hp
        · exact List.mem_append.mpr (.inl hp)
        · exact List.mem_append.mpr (.inr (.tail _ hp))
      rw [e] at hin
      refine .tail _ (.tail _ ?_)
      rcases List.mem_append.mp hin with hp | hp
      · exact List.mem_append.mpr (.inl hp)
      · rcases List.mem_cons.mp hp with hp | hp
        · exact absurd (by rw [hp]) hne'
        · exact List.mem_append.mpr (.inr hp)
  refine ⟨pre ++ post, fun p hp => N p ?_, fun p hp => ?_, fun o' h' ex N' p hp => ?_, fun o' r hr p hp => hr p (key o' p hp)⟩
  · rcases List.mem_cons.mp hp with rfl | hp
    · rw [e]; exact List.mem_append.mpr (.inr (.head _))
    · rcases List.mem_cons.mp hp with rfl | hp
      · exact hn
      · rw [e]
        rcases List.mem_append.mp hp with hp | hp
        · exact List.mem_append.mpr (.inl hp)
        · exact List.mem_append.mpr (.inr (.tail _ hp))
  · rcases List.mem_append.mp hp with hp | hp
    · exact a p hp
    · exact b p hp
  · refine N' p ?_
    rcases List.mem_append.mp hp with hp | hp
    · exact List.mem_append.mpr (.inl hp)
    · exact List.mem_append.mpr (.inr (key o' p hp))

variable {o nums : Obj} {nw : Obj → List (Addr × Obj)}
theorem draw_k {many : Int} {tm : Tok} (B : Below A₀ base outer h₀) (F : Fr h₀ L s.heap m) (X : (hd.heap_39 w.params).In h₀) (N : News h₀ L s.heap (news)) (T : Top hd.view_39 lo mean mg mb h₀) (hk : cs.kind = .function) (hd' : dp + 5 < recursionLimit) (hu : un + 40 < cLine)
  (U : ∀ o', Upd tp o o' news (nw o')) (hT : TapeO tp np o) (hN : NumsO nums) (hn : (np, nums) ∈ news) (hm : 0 < many)
  (ret : ∀ (r : Int) (t : Tok) o' h' tk', Fr h₀ L h' m → News h₀ L h' (nw o') → TapeO tp np o' → 0 ≤ r → r < many → Q (.int r t) { s with heap := h', toks := tk' }) :
  wpAny (model PySem.Challenge.rw_pq1295_01.row.prog w) (ktrTop dp un gd cn cs L a ccd cl outer) (call (.ref 113) [.ref tp, .int many tm]) Q E s := by
  obtain ⟨i, st, t1, t2, rfl, hi, h0, h1, hne⟩ := hT
  obtain ⟨vs, ns, k, rfl, hI, hl⟩ := hN
  obtain ⟨rest, N', h2, hR, _⟩ := upd_lift N U hn hne
  refine draw_c B F X N' T hk hd' hu hI hl hi h0 h1 hm hne h2 ?_
  intro r i' st' t t1' t2' h' tk' F2 N2 a1 a2 a3 a4 a5
  exact ret r t _ h' tk' F2 (hR _ _ [] N2) ⟨_, _, _, _, rfl, a3, a4, a5, hne⟩ a1 a2


section
local macro_rules | `(tactic| walk_at "eval ListComp") => `(tactic| refine hold ?_)
local macro_rules | `(tactic| walk_at "exec Assign cons ListComp") => `(tactic| refine hold ?_)
local macro_rules | `(tactic| walk_at "eval Name") => `(tactic| (k_here; (with_reducible show wpAny _ _ (eval (Expr.Name _ _) (compEnvC _ _ _ _)) _ _ _); k_dflt (refine LCgL.ld_global (by k_asm) (by k_asm) (by k_asm) (by k_is) ?_)))
local macro_rules | `(tactic| walk_at "call builtin:str.split") => `(tactic| refine hold ?_)
local macro_rules | `(tactic| walk_at "CompSrc") => `(tactic| refine hold ?_)
local macro_rules | `(tactic| walk_at "SrcW") => `(tactic| refine hold ?_)
local macro_rules | `(tactic| walk_at "call builtin:len") => `(tactic| (k_here; k_dflt (apply len_news); (iterate 4 walk_at "zz e")))
local macro_rules | `(tactic| walk_at "compareOp In none ref") => `(tactic| (k_here; k_dflt (apply in_news); (iterate 4 walk_at "zz e")))
local macro_rules | `(tactic| walk_at "call ref") => `(tactic| refine hold ?_)
local macro_rules | `(tactic| walk_at "eval IfExp") => `(tactic| ((with_reducible show wpAny _ _ (eval (Expr.IfExp (Expr.Name _ _) (Expr.Constant _ _ _) (Expr.Constant _ _ _) _) _) _ _ _); goal_lacks CutEnd; refine hold ?_))
theorem num_c {x : Str} {tx : Tok} (B : Below A₀ base outer h₀) (F : Fr h₀ L s.heap m) (X : (hd.heap_39 w.params).In h₀) (N : News h₀ L s.heap (news)) (T : Top hd.view_39 lo mean mg mb h₀) (hk : cs.kind = .function) (hd' : dp + 15 < recursionLimit) (hu : un + 100 < cLine) (hz : x.length ≤ 10000)
  (ret0 : numR x = none → ∀ h' tk', Fr h₀ L h' m → News h₀ L h' news → Q .none { s with heap := h', toks := tk' })
  (ret1 : ∀ p q, numR x = some (p, q) → ∀ r t1 t2 h' tk', Fr h₀ L h' m → News h₀ L h' ((r, { cls := .type "tuple", data := .seq [Value.int p t1, Value.int q t2].toArray }) :: news) → (∀ z ∈ news, z.1 < r) → Q (.ref r) { s with heap := h', toks := tk' })
  : wpAny (model PySem.Challenge.rw_pq1295_01.row.prog w) (ktrTop dp un gd cn cs L a ccd cl outer) (call (.ref 91) [.str x tx]) Q E s := by
  revert X
  k_fill
  intro X
  refine wpAny_call ?_
  k_dflt (refine' code_def (binds := [(Str.ofString "word", .str x tx)]) ?k1 ?k2 ?k3 ?k4 ?k5 ?kA ?kF ?kK ?k6 ?k7 ?k8 ?k9 ?kB ?_ ?c2 ?c3 ?c4 ?c5; (case kA => exact rfl); (case kF => exact rfl); (case kK => assumption); (case k1 => k_asm); (case k2 => k_asm); (case k3 => k_asm); (case k4 => k_asm); (case k5 => k_asm); (case k6 => k_is); (case k7 => k_is); (case k8 => ktr_room); (case k9 => exact BindsTo.of_eq rfl); (case c5 => decide); (case kB => exact locs rfl); (case c2 => exact rfl); (case c3 => exact rfl); (case c4 => exact rfl); k_whole; intro g' L' h' FG' F' N' B' X' T'; (try dsimp only); (try k_lift B'); (try k_fold))

  k_steps
  refine unhold ?_
  refine LCg.Assign_ListComp_U (F₀ := by k_asm) (by rfl) (by with_unfolding_all rfl) (by with_unfolding_all rfl) (by decide) (by rfl) (by decide) (by rfl) (by rfl) (by rfl) ?_
  k_steps
  refine unhold ?_
  refine ifcut (fun y => ∃ t, y = .int (if (Txt.slice (Txt.stripChars x (Str.ofString " ")) none (some 1) == Str.ofString "-") = true then 1 else 0) t) ?_ ?_
  · k_steps
    · exact ⟨⟨_, by rw [if_pos (by with_reducible assumption)]⟩, _, rfl⟩
    · exact ⟨⟨_, by rw [if_neg (ne_true_of (by with_reducible assumption))]⟩, _, rfl⟩
  rintro _ tkc ⟨tc, rfl⟩
  dsimp only
  k_steps
  have hn := Box.mk (numR_def x)
  refine unhold ?_
  have h1 : (Txt.stripChars x (Str.ofString " ")).length ≤ x.length := by with_reducible assumption
  have hsl : ∀ b, (Txt.slice (Txt.stripChars x (Str.ofString " ")) (some b) none).length ≤ 10000 := fun b => Nat.le_trans (Txt.slice_le _ _ _) (Nat.le_trans h1 hz)
  refine KSpl.split1 (by k_asm) (by k_asm) (by decide) ?_ (by rw [sizeLine_eq]; exact Nat.le_trans (Nat.add_le_add_right (hsl _) 2) (by decide))
  intro D0 lp h0 k0 hE hS F1 N1 l1
  k_steps
  refine unhold ?_
  have hsz : (strValues lp).toArray.size ≤ sizeLine := by
    rw [List.size_toArray, StrsAre.len_eq hS, hE, sizeLine_eq]
    exact Nat.le_trans (split_le _ _) (Nat.le_trans (Nat.add_le_add_right (hsl _) 2) (by decide))
  refine LCg.CompSrc.ledger rfl F1 N1 (.head _) hsz (fun g => ?_)
  refine rest_gen (fun i y => ∃ o t, ((lp.map (·.1)).map wholeS)[i]? = some o ∧ y = optV o t) ?_ ?_
  · intro i v I oI C oC D m₂ ys h tk E' hi hv hyl hC hx F' N' off ne
    rw [List.getElem?_toArray] at hv
    obtain ⟨y, t, rfl, hy⟩ := hS.item i v hv
    have hyz : y.length ≤ 10000 := by
      have h5 := List.mem_of_getElem? hy
      rw [hE] at h5
      exact Nat.le_trans (part_short h5) (hsl _)
    k_steps
    refine unhold ?_
    refine ListComp_W (F₀ := by k_asm) (by with_unfolding_all rfl) (by decide) (by rfl) (by decide) (by rfl) ?_
    k_steps
    refine unhold ?_
    refine SrcW.str rfl F' N' (Nat.le_trans hyz (by rw [sizeLine_eq]; decide)) (fun g2 => ?_)
    refine rest_gen (fun i y' => ∃ x t, (y.cps.toList.map fun c : Nat => Int.ofNat c)[i]? = some x ∧ y' = .int x t) ?_ ?_
    · rintro i2 v2 I2 oI2 C2 oC2 D2 m2 ys2 h2 tk2 E2 hi2 ⟨c, u, hc, rfl⟩ hyl2 hC2 hx2 F2 N2 off2 ne2
      k_steps
      refine LCg.CompEnd.intro F2 N2 _ (fun p hp => hp) off2 trivial ⟨rfl, _, _, ?_, rfl⟩
      have hc' : y.cps.toList[i2]? = some c := by rw [Array.getElem?_toList]; exact hc
      rw [List.getElem?_map, hc']; rfl
    · intro ys2 hl2 hr2 D2 h2 tk2 F2 N2 off2
      k_steps
      refine unhold ?_
      have hI2 := intsAre_of (by rw [hl2, List.length_map, Array.length_toList]) hr2
      k_dflt (refine' whole_c (vs := ys2) (ns := y.cps.toList.map fun c : Nat => Int.ofNat c) B' F2 X' N2 T' rfl ?hdd ?huu hI2 ?hzz ?rr)
      case hdd => dsimp only [Around.deeper, ktrTop]; omega
      case huu => dsimp only [Around.deeper, ktrTop]; omega
      case hzz => rw [List.length_map, Array.length_toList]; exact hyz
      case rr =>
        intro t3 h3 tk3 F3 N3
        k_steps
        refine LCg.CompEnd.intro F3 N3 _ (fun p hp => .tail _ hp) off (.inr ⟨_, .head _, rfl, _, rfl⟩) ⟨rfl, wholeS y, _, ?_, rfl⟩
        rw [List.getElem?_map, hy]; rfl
  · intro ys hl hr D h tk F' N' off
    try k_fold
    rw [← hE] at hn
    have hlo : ys.length = ((lp.map (·.1)).map wholeS).length := by rw [hl, List.size_toArray, StrsAre.len_eq hS, List.length_map, List.length_map, List.length_map]
    have hpos : 1 ≤ ((lp.map (·.1)).map wholeS).length := by rw [List.length_map, hE]; exact split_pos _ _
    have hlim : (((lp.map (·.1)).map wholeS).length : Int) ≤ 16384 := by
      rw [List.length_map, hE]
      exact Int.ofNat_le.mpr (Nat.le_trans (split_le _ _) (Nat.le_trans (Nat.add_le_add_right (hsl _) 2) (by decide)))
    generalize hos : (lp.map (·.1)).map wholeS = os at hr hn hlo hpos hlim
    have N2 : News g' L' h ((D, LCg.lst ys) :: news) := news_sub2 N'
    have hee := optsAre hr
    have hany := any_opt hlo hr
    clear hos hE hS hl hsz N' N1 F1 l1 off hsl
    have hk9 : (ys.toArray.size : Int) = (os.length : Int) := by rw [List.size_toArray, hlo]
    by_cases hbig : 2 < os.length
    · have hn0 := Box.mk (hn.out.trans (numOf_big hbig))
      clear hr hee hany hn ret1
      have hbig' : (2 : Int) < (os.length : Int) := by omega
      k_steps
      rename Fr h₀ L _ _ => F3
      rename News h₀ L _ _ => N3
      exact ret0 hn0.out _ _ F3 (fun p hp => N3 p (.tail _ hp))
    · have hbig' : ¬ (2 : Int) < (os.length : Int) := by omega
      by_cases hno : os.any (·.isNone) = true
      · rw [hno] at hany
        have hn0 := Box.mk (hn.out.trans (numOf_no hbig hno))
        clear hr hn ret1 hno
        have hee := Box.mk hee
        have hany := Box.mk hany
        k_steps
        rename Fr h₀ L _ _ => F3
        rename News h₀ L _ _ => N3
        exact ret0 hn0.out _ _ F3 (fun p hp => N3 p (.tail _ hp))
      · rw [Bool.not_eq_true] at hno
        rw [hno] at hany
        rcases numOf_cases hbig hno hpos with ⟨a, rfl⟩ | ⟨a, b, rfl⟩
        · obtain ⟨t9, rfl⟩ := ys_one hlo hr
          clear hr hlo hno hbig hbig' hpos hlim hk9 hz hd' hu h1
          have hee := Box.mk hee
          have hany := Box.mk hany
          k_steps
          all_goals
            rename Fr h₀ L _ _ => F3
            rename News h₀ L _ _ => N3
            rename _ ∧ AllLt _ news => hlt
            first
              | exact ret1 _ _ (hn.out.trans (numOf_a1 (by with_reducible assumption))) _ _ _ _ _ F3 (news_sub2 N3) (allLt_mem _ hlt.2)
              | exact ret1 _ _ (hn.out.trans (numOf_a0 (by with_reducible assumption))) _ _ _ _ _ F3 (news_sub2 N3) (allLt_mem _ hlt.2)
        · obtain ⟨t9, u9, rfl⟩ := ys_two hlo hr
          clear hr hlo hno hbig hbig' hpos hlim hk9 hz hd' hu h1
          have hee := Box.mk hee
          have hany := Box.mk hany
          k_steps
          all_goals
            rename Fr h₀ L _ _ => F3
            rename News h₀ L _ _ => N3
            first
              | (rename List.getD [a, b] _ _ = 0 => h9; exact ret0 (hn.out.trans (numOf_bz h9)) _ _ F3 (fun p hp => N3 p (.tail _ hp)))
              | (rename List.getD [a, b] _ _ ≠ 0 => h9; rename _ ∧ AllLt _ news => hlt; exact ret1 _ _ (hn.out.trans (numOf_b1 (by with_reducible assumption) h9)) _ _ _ _ _ F3 (news_sub2 N3) (allLt_mem _ hlt.2))
              | (rename List.getD [a, b] _ _ ≠ 0 => h9; rename _ ∧ AllLt _ news => hlt; exact ret1 _ _ (hn.out.trans (numOf_b0 (by with_reducible assumption) h9)) _ _ _ _ _ F3 (news_sub2 N3) (allLt_mem _ hlt.2))
end


def digS (n : Nat) : Str := ⟨((digR n).reverse.map Int.toNat).toArray⟩
def decS (i : Int) : Str := if i < 0 then Str.ofString "-" ++ digS (-i).toNat else digS i.toNat
theorem digS_eq (n : Nat) : (⟨(((digR n).reverse.map fun n => n.toNat.toUInt8).map (fun c => c.toNat)).toArray⟩ : Str) = digS n := by
  unfold digS
  rw [List.map_map]
  congr 2
  apply List.map_congr_left
  intro x hx
  have := digR_mem n x (List.mem_reverse.mp hx)
  show x.toNat % 256 = x.toNat
  omega
theorem digS_ascii (n : Nat) : ∀ c ∈ ((digR n).reverse.map fun n => n.toNat.toUInt8), c.toNat ≤ 127 := by
  intro c hc
  obtain ⟨x, hx, rfl⟩ := List.mem_map.mp hc
  have := digR_mem n x (List.mem_reverse.mp hx)
  show x.toNat % 256 ≤ 127
  omega
theorem digS_len (n : Nat) : (digS n).length = (digR n).length := by
  unfold digS
  show (List.toArray _).size = _
  rw [List.size_toArray, List.length_map, List.length_reverse]
local macro_rules | `(tactic| walk_at "call ref") => `(tactic| (k_here; (with_reducible show wpAny _ _ (call (Value.ref 66) _) _ _ _); k_dflt (apply octs_c); (iterate 8 walk_at "zz e"); skip))
local macro_rules | `(tactic| walk_at "call ref") => `(tactic| (k_here; (with_reducible show wpAny _ _ (call (Value.ref 52) _) _ _ _); k_dflt (apply ascii_c); (iterate 8 walk_at "zz e"); skip))

theorem decimal_c {i : Int} {ti : Tok} (B : Below A₀ base outer h₀) (F : Fr h₀ L s.heap m) (X : (hd.heap_39 w.params).In h₀) (N : News h₀ L s.heap (news)) (T : Top hd.view_39 lo mean mg mb h₀) (hk : cs.kind = .function) (hd' : dp + 10 < recursionLimit) (hu : un + 60 < cLine) (hz : (digR i.natAbs).length ≤ 10000)
  (ret : ∀ (t : Tok) h' tk', Fr h₀ L h' m → News h₀ L h' news → Q (Value.str (decS i) t) { s with heap := h', toks := tk' }) : wpAny (model PySem.Challenge.rw_pq1295_01.row.prog w) (ktrTop dp un gd cn cs L a ccd cl outer) (call (.ref 80) [.int i ti]) Q E s := by
  revert X
  k_fill
  intro X
  refine wpAny_call ?_
  k_dflt (refine' code_def (binds := [(Str.ofString "number", .int i ti)]) ?k1 ?k2 ?k3 ?k4 ?k5 ?kA ?kF ?kK ?k6 ?k7 ?k8 ?k9 ?kB ?_ ?c2 ?c3 ?c4 ?c5; (case kA => exact rfl); (case kF => exact rfl); (case kK => assumption); (case k1 => k_asm); (case k2 => k_asm); (case k3 => k_asm); (case k4 => k_asm); (case k5 => k_asm); (case k6 => k_is); (case k7 => k_is); (case k8 => ktr_room); (case k9 => exact BindsTo.of_eq rfl); (case c5 => decide); (case kB => exact locs rfl); (case c2 => exact rfl); (case c3 => exact rfl); (case c4 => exact rfl); k_whole; intro g' L' h' FG' F' N' B' X' T'; (try dsimp only); (try k_lift B'); (try k_fold))

  k_steps
  · rw [nat_neg (by assumption)]; exact hz
  · rename_i c hc; exact digS_ascii _ c hc
  · rw [List.length_map, List.length_reverse, nat_neg (by assumption)]; exact hz
  · rw [digS_eq]
    have hl : (digS (-i).toNat).length ≤ 10000 := by rw [digS_len, nat_neg (by assumption)]; exact hz
    k_steps
    rename Fr h₀ L _ _ => F2
    rename News h₀ L _ _ => N2
    have e : decS i = Str.ofString "-" ++ digS (-i).toNat := by unfold decS; rw [if_pos (by assumption)]
    rw [e] at ret
    exact ret _ _ _ F2 N2
  · rw [nat_pos (Int.not_lt.mp (by assumption))]; exact hz
  · rename_i c hc; exact digS_ascii _ c hc
  · rw [List.length_map, List.length_reverse, nat_pos (Int.not_lt.mp (by assumption))]; exact hz
  · rw [digS_eq]
    rename Fr h₀ L _ _ => F2
    rename News h₀ L _ _ => N2
    have e : decS i = digS i.toNat := by unfold decS; rw [if_neg (by assumption)]
    rw [e] at ret
    exact ret _ _ _ F2 N2


noncomputable def fd86 (w : World) : Option FuncData := match (hd.heap_39 w.params).lookup 86 with
  | some ⟨_, _, .func fd, _⟩ => some fd
  | _ => none
def Bd86 (w : World) (args : List Value) (v nv : Value) : Prop := ∀ (s : Shared) fd, (hd.heap_39 w.params).In s.heap → fd86 w = some fd → BindsTo s fd ⟨args, []⟩ [(Str.ofString "value", v), (Str.ofString "name", nv)]
theorem bd86_of {w : World} {args : List Value} {v nv : Value} (h : ∀ s : Shared, (hd.heap_39 w.params).In s.heap → ∃ fd, fd86 w = some fd ∧ BindsTo s fd ⟨args, []⟩ [(Str.ofString "value", v), (Str.ofString "name", nv)]) : Bd86 w args v nv := fun s fd X e => by
  obtain ⟨fd', e', hb⟩ := h s X
  rw [e] at e'
  cases e'
  exact hb
theorem bd86_two {w : World} (v nv : Value) : Bd86 w [v, nv] v nv := bd86_of fun s X => by
  have hz : PySem.Challenge.rw_pq1295_01.row.prog = PySem.Challenge.rw_pq1295_01.row.prog := rfl
  revert X hz
  k_fill
  intro X _
  exact ⟨_, rfl, binds_K X rfl (by k_is) rfl rfl rfl⟩
theorem bd86_one {w : World} (v : Value) : Bd86 w [v] v (.str (Str.ofString "nv") 274) := bd86_of fun s X => by
  have hz : PySem.Challenge.rw_pq1295_01.row.prog = PySem.Challenge.rw_pq1295_01.row.prog := rfl
  revert X hz
  k_fill
  intro X _
  exact ⟨_, rfl, binds_K X rfl (by k_is) rfl rfl rfl⟩
abbrev tupO (l : List Value) : Obj := { cls := .type "tuple", data := .seq l.toArray }
def ratS (p q : Int) : Str := decS p ++ (if q = 1 then Str.ofString "" else Str.ofString "/" ++ decS q)
def smallI (i : Int) : Prop := (digR i.natAbs).length ≤ 4500
theorem decS_len {i : Int} (h : smallI i) : (decS i).length ≤ 4501 := by
  unfold smallI at h
  unfold decS
  split
  · rw [Str.length_append, digS_len, nat_neg (by assumption), show (Str.ofString "-").length = 1 by decide]
    exact Nat.le_trans (Nat.add_le_add_left h 1) (by decide)
  · rw [digS_len, nat_pos (Int.not_lt.mp (by assumption))]; exact Nat.le_trans h (by decide)
theorem small_10000 {i : Int} (h : smallI i) : (digR i.natAbs).length ≤ 10000 := Nat.le_trans h (by decide)
theorem ratS_one {p q : Int} (h : q = 1) : ratS p q = decS p ++ Str.ofString "" := by unfold ratS; rw [if_pos h]
theorem ratS_more {p q : Int} (h : ¬ q = 1) : ratS p q = decS p ++ (Str.ofString "/" ++ decS q) := by unfold ratS; rw [if_neg h]
theorem isp_c {p q : Int} {t1 t2 : Tok} {v : Addr} (B : Below A₀ base outer h₀) (F : Fr h₀ L s.heap m) (X : (hd.heap_39 w.params).In h₀) (N : News h₀ L s.heap ((v, tupO [.int p t1, .int q t2]) :: news)) (T : Top hd.view_39 lo mean mg mb h₀) (hk : cs.kind = .function) (hd' : dp + 12 < recursionLimit) (hu : un + 80 < cLine)
  (ret : ∀ h' tk', Fr h₀ L h' m → News h₀ L h' ((v, tupO [.int p t1, .int q t2]) :: news) → Q (.bool true) { s with heap := h', toks := tk' }) : wpAny (model PySem.Challenge.rw_pq1295_01.row.prog w) (ktrTop dp un gd cn cs L a ccd cl outer) (call (.ref 73) [.ref v]) Q E s := by
  revert X
  k_fill
  intro X
  refine wpAny_call ?_
  k_dflt (refine' code_def (binds := [(Str.ofString "value", .ref v)]) ?k1 ?k2 ?k3 ?k4 ?k5 ?kA ?kF ?kK ?k6 ?k7 ?k8 ?k9 ?kB ?_ ?c2 ?c3 ?c4 ?c5; (case kA => exact rfl); (case kF => exact rfl); (case kK => assumption); (case k1 => k_asm); (case k2 => k_asm); (case k3 => k_asm); (case k4 => k_asm); (case k5 => k_asm); (case k6 => k_is); (case k7 => k_is); (case k8 => ktr_room); (case k9 => exact BindsTo.of_eq rfl); (case c5 => decide); (case kB => exact locs rfl); (case c2 => exact rfl); (case c3 => exact rfl); (case c4 => exact rfl); k_whole; intro g' L' h' FG' F' N' B' X' T'; (try dsimp only); (try k_lift B'); (try k_fold))

  k_steps
  rename Fr h₀ L _ _ => F2
  rename News h₀ L _ _ => N2
  exact ret _ _ F2 N2
local macro_rules | `(tactic| k_ne) => `(tactic| assumption)
local macro_rules | `(tactic| walk_at "call ref") => `(tactic| (k_here; (with_reducible show wpAny _ _ (call (Value.ref 73) _) _ _ _); k_dflt (apply isp_c); (iterate 8 walk_at "zz e"); walk_at "zz s"))
local macro_rules | `(tactic| walk_at "call ref") => `(tactic| (k_here; (with_reducible show wpAny _ _ (call (Value.ref 80) _) _ _ _); k_dflt (apply decimal_c); (iterate 9 walk_at "zz e"); walk_at "zz s"))
theorem vt_int {i : Int} {ti : Tok} {nv : Value} {args : List Value} (B : Below A₀ base outer h₀) (F : Fr h₀ L s.heap m) (X : (hd.heap_39 w.params).In h₀) (N : News h₀ L s.heap (news)) (T : Top hd.view_39 lo mean mg mb h₀) (hk : cs.kind = .function) (hd' : dp + 20 < recursionLimit) (hu : un + 120 < cLine) (hb : Bd86 w args (.int i ti) (nv)) (hz : smallI i)
  (ret : ∀ (t : Tok) h' tk', Fr h₀ L h' m → News h₀ L h' news → Q (Value.str (decS i) t) { s with heap := h', toks := tk' }) : wpAny (model PySem.Challenge.rw_pq1295_01.row.prog w) (ktrTop dp un gd cn cs L a ccd cl outer) (call (.ref 86) args) Q E s := by
  revert X
  k_fill
  intro X
  refine wpAny_call ?_
  k_dflt (refine' code_def (binds := [(Str.ofString "value", .int i ti), (Str.ofString "name", nv)]) ?k1 ?k2 ?k3 ?k4 ?k5 ?kA ?kF ?kK ?k6 ?k7 ?k8 ?k9 ?kB ?_ ?c2 ?c3 ?c4 ?c5; (case kA => exact rfl); (case kF => exact rfl); (case kK => assumption); (case k1 => k_asm); (case k2 => k_asm); (case k3 => k_asm); (case k4 => k_asm); (case k5 => k_asm); (case k6 => k_is); (case k7 => k_is); (case k8 => ktr_room); (case k9 => exact hb _ _ (by k_in) rfl); (case c5 => decide); (case kB => exact locs rfl); (case c2 => exact rfl); (case c3 => exact rfl); (case c4 => exact rfl); k_whole; intro g' L' h' FG' F' N' B' X' T'; (try dsimp only); (try k_lift B'); (try k_fold))

  have hz10 := small_10000 hz
  k_steps
  rename Fr h₀ L _ _ => F2
  rename News h₀ L _ _ => N2
  exact ret _ _ _ F2 N2
theorem vt_pairn {p q : Int} {t1 t2 tn : Tok} {nm : Str} {v : Addr} {args : List Value} (B : Below A₀ base outer h₀) (F : Fr h₀ L s.heap m) (X : (hd.heap_39 w.params).In h₀) (N : News h₀ L s.heap ((v, tupO [.int p t1, .int q t2]) :: news)) (T : Top hd.view_39 lo mean mg mb h₀) (hk : cs.kind = .function) (hd' : dp + 20 < recursionLimit) (hu : un + 120 < cLine) (hb : Bd86 w args (.ref v) (.str nm tn)) (hne : nm ≠ Str.ofString "nv")
  (ret : ∀ h' tk', Fr h₀ L h' m → News h₀ L h' ((v, tupO [.int p t1, .int q t2]) :: news) → Q .none { s with heap := h', toks := tk' }) : wpAny (model PySem.Challenge.rw_pq1295_01.row.prog w) (ktrTop dp un gd cn cs L a ccd cl outer) (call (.ref 86) args) Q E s := by
  revert X
  k_fill
  intro X
  refine wpAny_call ?_
  k_dflt (refine' code_def (binds := [(Str.ofString "value", .ref v), (Str.ofString "name", .str nm tn)]) ?k1 ?k2 ?k3 ?k4 ?k5 ?kA ?kF ?kK ?k6 ?k7 ?k8 ?k9 ?kB ?_ ?c2 ?c3 ?c4 ?c5; (case kA => exact rfl); (case kF => exact rfl); (case kK => assumption); (case k1 => k_asm); (case k2 => k_asm); (case k3 => k_asm); (case k4 => k_asm); (case k5 => k_asm); (case k6 => k_is); (case k7 => k_is); (case k8 => ktr_room); (case k9 => exact hb _ _ (by k_in) rfl); (case c5 => decide); (case kB => exact locs rfl); (case c2 => exact rfl); (case c3 => exact rfl); (case c4 => exact rfl); k_whole; intro g' L' h' FG' F' N' B' X' T'; (try dsimp only); (try k_lift B'); (try k_fold))

  k_steps
  all_goals first | done | (rename Fr h₀ L _ _ => F2; rename News h₀ L _ _ => N2; exact ret _ _ F2 N2) | (rename (nm != Str.ofString "nv") = false => hx; exact absurd (by simpa using hx) hne)
theorem vt_pair {p q : Int} {t1 t2 tn : Tok} {v : Addr} {args : List Value} (B : Below A₀ base outer h₀) (F : Fr h₀ L s.heap m) (X : (hd.heap_39 w.params).In h₀) (N : News h₀ L s.heap ((v, tupO [.int p t1, .int q t2]) :: news)) (T : Top hd.view_39 lo mean mg mb h₀) (hk : cs.kind = .function) (hd' : dp + 20 < recursionLimit) (hu : un + 120 < cLine) (hb : Bd86 w args (.ref v) (.str (Str.ofString "nv") tn)) (hp : smallI p) (hq : smallI q)
  (ret : ∀ (t : Tok) h' tk', Fr h₀ L h' m → News h₀ L h' ((v, tupO [.int p t1, .int q t2]) :: news) → Q (Value.str (ratS p q) t) { s with heap := h', toks := tk' }) : wpAny (model PySem.Challenge.rw_pq1295_01.row.prog w) (ktrTop dp un gd cn cs L a ccd cl outer) (call (.ref 86) args) Q E s := by
  revert X
  k_fill
  intro X
  refine wpAny_call ?_
  k_dflt (refine' code_def (binds := [(Str.ofString "value", .ref v), (Str.ofString "name", .str (Str.ofString "nv") tn)]) ?k1 ?k2 ?k3 ?k4 ?k5 ?kA ?kF ?kK ?k6 ?k7 ?k8 ?k9 ?kB ?_ ?c2 ?c3 ?c4 ?c5; (case kA => exact rfl); (case kF => exact rfl); (case kK => assumption); (case k1 => k_asm); (case k2 => k_asm); (case k3 => k_asm); (case k4 => k_asm); (case k5 => k_asm); (case k6 => k_is); (case k7 => k_is); (case k8 => ktr_room); (case k9 => exact hb _ _ (by k_in) rfl); (case c5 => decide); (case kB => exact locs rfl); (case c2 => exact rfl); (case c3 => exact rfl); (case c4 => exact rfl); k_whole; intro g' L' h' FG' F' N' B' X' T'; (try dsimp only); (try k_lift B'); (try k_fold))

  have hz10 := small_10000 hp
  have hz11 := small_10000 hq
  have hl1 := decS_len hp
  have hl2 := decS_len hq
  k_steps
  · rename q = 1 => hq1
    rename Fr h₀ L _ _ => F2
    rename News h₀ L _ _ => N2
    rw [ratS_one hq1] at ret
    exact ret _ _ _ F2 N2
  · rename q ≠ 1 => hq1
    rename Fr h₀ L _ _ => F2
    rename News h₀ L _ _ => N2
    rw [ratS_more hq1] at ret
    exact ret _ _ _ F2 N2


def fig (k : Int) : Str := ⟨#[(48 + k).toNat]⟩
theorem fig_len (k : Int) : (fig k).length = 1 := rfl
theorem fig_of {i : Int} (h0 : 0 ≤ i) (h1 : i < 10) : Txt.item (Str.ofString "0123456789") i = fig i := by
  obtain ⟨k, rfl⟩ := Int.eq_ofNat_of_zero_le h0
  have key : ∀ k : Fin 10, Txt.item (Str.ofString "0123456789") (k.val : Int) = fig (k.val : Int) := by decide +kernel
  exact key ⟨k, by omega⟩
theorem fig_item {prog : Program} {w : World} {A : Around} {E : Value → Shared → Prop} {s : Shared} {value slice : PySem.Expr} {t u : Tok} {i : Int} {Q : Value → Shared → Prop}
    (h0 : 0 ≤ i) (h1 : i < 10)
    (hs : subscripted slice false (.str (Str.ofString "0123456789") t) (.int i u) = operate [.str (Str.ofString "0123456789") t, .int i u] (getItem (.str (Str.ofString "0123456789") t) (.int i u)))
    (ht : ∀ r, letTemporaryGo value (.str (Str.ofString "0123456789") t) r = pure ()) (h : Q (.str (fig i) s.toks) { s with toks := s.toks + 1 }) :
    wpAny (model prog w) A (subscriptTail value slice (.str (Str.ofString "0123456789") t) (.int i u)) Q E s :=
  KXi.item (n := 10) (by decide +kernel) (Int.le_trans (by decide) h0) h1 (by decide) (fun _ => by rw [fig_of h0 h1]; exact h) hs ht
def repF (x : Str) (n : Nat) : Str := ⟨((List.replicate n x.cps.toList).flatten).toArray⟩
theorem repF_len (x : Str) (n : Nat) : (repF x n).length = n * x.length := by
  unfold repF
  show (List.toArray _).size = _
  rw [List.size_toArray, List.length_flatten, List.map_replicate, List.sum_replicate_nat]
  simp [Str.length]
theorem foldl_app : ∀ (n : Nat) (x : Array Nat) (a : Array Nat), (List.replicate n x).foldl (· ++ ·) a = a ++ (((List.replicate n x.toList).flatten).toArray)
  | 0, x, a => by simp
  | n + 1, x, a => by
    rw [List.replicate_succ, List.foldl_cons, foldl_app n x (a ++ x), List.replicate_succ, List.flatten_cons]
    apply Array.toList_inj.mp
    simp
theorem mul_rep (x : Str) {n : Int} (h : 0 ≤ n) : Txt.mul x n = repF x n.toNat := by
  unfold Txt.mul
  by_cases h0 : n < 1
  · rw [if_pos h0, show n = 0 by omega]; apply Str.ext'; apply Array.toList_inj.mp; simp [repF]; rfl
  · rw [if_neg h0]
    by_cases h1 : (n == 1 || x.length == 0) = true
    · rw [if_pos h1]
      rw [Bool.or_eq_true, beq_iff_eq, beq_iff_eq] at h1
      rcases h1 with rfl | h1
      · apply Str.ext'; simp [repF]
      · have : x.cps = #[] := Array.eq_empty_of_size_eq_zero h1
        apply Str.ext'
        apply Array.toList_inj.mp
        simp [repF, this]
    · rw [if_neg h1]
      apply Str.ext'
      rw [foldl_app]
      simp [repF]
theorem mul_any {prog : Program} {w : World} {A : Around} {E : Value → Shared → Prop} {s : Shared} {x : Str} {t u : Tok} {n : Int} {Q : Value → Shared → Prop} (k : Nat) (hx : x.length ≤ k) (h0 : 0 ≤ n) (h1 : n ≤ 1434) (hk : k ≤ 10)
    (h : ∀ t' k', (repF x n.toNat).length ≤ k * n.toNat → Q (.str (repF x n.toNat) t') { s with toks := k' }) : wpAny (model prog w) A (binaryOp .Mult (.str x t) (.int n u)) Q E s := by
  refine SB.mul (mulOk_of 10 1434 (by omega) h1 (by omega) (by decide) (by decide)) fun t' k' => ?_
  rw [mul_rep x h0]
  refine h t' k' ?_
  rw [repF_len, Nat.mul_comm]
  exact Nat.mul_le_mul_right _ hx
theorem mul_fig {prog : Program} {w : World} {A : Around} {E : Value → Shared → Prop} {s : Shared} {a b c : Int} {t u : Tok} {n : Int} {Q : Value → Shared → Prop} (h0 : 0 ≤ n) (h1 : n ≤ 1434)
    (h : ∀ t' k', (repF (fig a ++ fig b ++ fig c) n.toNat).length ≤ 3 * n.toNat → Q (.str (repF (fig a ++ fig b ++ fig c) n.toNat) t') { s with toks := k' }) : wpAny (model prog w) A (binaryOp .Mult (.str (fig a ++ fig b ++ fig c) t) (.int n u)) Q E s :=
  mul_any 3 (by simp only [Str.length_append, fig_len]; decide) h0 h1 (by decide) h
def pw (n : Int) : Int := 1000 ^ n.toNat
def rp (n : Int) : Int := (pw n - 1).fdiv 999
theorem pw_step {prog : Program} {w : World} {A : Around} {E : Value → Shared → Prop} {s : Shared} {t u : Tok} {n : Int} {Q : Value → Shared → Prop} (h0 : 0 ≤ n) (h1 : n ≤ 1434)
    (h : Q (.int (pw n) s.toks) { s with toks := s.toks + 1 }) : wpAny (model prog w) A (binaryOp .Pow (.int 1000 t) (.int n u)) Q E s := by
  refine pow_int h0 ?_ h
  have e : Builtin.Int.intBits 1000 = 10 := by decide +kernel
  rw [e]
  show (10 : Int) * n ≤ 134217728
  omega
theorem pw_bits {n : Int} (h1 : n ≤ 1434) : Builtin.Int.intBits (rp n) ≤ 20000 := by
  unfold rp
  refine intBits_fdiv_le ?_
  have a1 : Builtin.Int.intBits (pw n) ≤ 10 * n.toNat + 1 := intBits_pow_le (by decide +kernel) _
  have a2 := intBits_sub_le (y := 1) (n := 1) a1 (by decide +kernel)
  exact Nat.le_trans a2 (Nat.le_trans (Nat.succ_le_succ (Nat.max_le.mpr ⟨Nat.succ_le_succ (Nat.mul_le_mul_left 10 (Int.toNat_le.mpr h1)), by decide⟩)) (by decide : 14341 + 1 ≤ 20000))
theorem mul_step {prog : Program} {w : World} {A : Around} {E : Value → Shared → Prop} {s : Shared} {t u : Tok} {n a : Int} {Q : Value → Shared → Prop} (h1 : n ≤ 1434) (ha0 : 0 ≤ a) (ha1 : a < 1000)
    (h : Q (.int (a * rp n) s.toks) { s with toks := s.toks + 1 }) : wpAny (model prog w) A (binaryOp .Mult (.int a t) (.int ((pw n - 1).fdiv 999) u)) Q E s := by
  have hb : Builtin.Int.intBits a ≤ 10 := intBits_le_iff.mpr (by show a.natAbs < 1024; rw [← nat_pos ha0]; exact Nat.lt_of_le_of_lt (Int.toNat_le.mpr (Int.le_of_lt ha1)) (by decide))
  exact mul_int h (IntMulOk.of_le hb (pw_bits h1) (by decide))
def rpN : Nat → Nat
  | 0 => 0
  | n + 1 => 1000 * rpN n + 1
theorem rp_eq : ∀ n : Nat, (1000 : Int) ^ n = 999 * (rpN n : Int) + 1
  | 0 => rfl
  | n + 1 => by
    rw [Int.pow_succ, rp_eq n]
    show _ = 999 * ((1000 * rpN n + 1 : Nat) : Int) + 1
    omega
theorem rp_nat (n : Nat) : rp (n : Int) = (rpN n : Int) := by
  unfold rp pw
  rw [Int.toNat_natCast, rp_eq, Int.add_sub_cancel, Int.mul_fdiv_cancel_left _ (by decide)]
theorem digR_one {n : Nat} (h : n / 10 = 0) : digR n = [48 + (n : Int) % 10] := by rw [digR, if_pos h]
theorem digR_single {r : Nat} (h : r < 10) : digR r = [48 + (r : Int)] := by
  rw [digR_one (Nat.div_eq_of_lt h), show (r : Int) % 10 = r from congrArg Int.ofNat (Nat.mod_eq_of_lt h)]
theorem digR_cons {q r : Nat} (hr : r < 10) (hq : 0 < q) : digR (10 * q + r) = (48 + (r : Int)) :: digR q := by
  have e : (10 * q + r) / 10 = q := by rw [Nat.mul_add_div (by decide), Nat.div_eq_of_lt hr, Nat.add_zero]
  have e2 : ((10 * q + r : Nat) : Int) % 10 = r := congrArg Int.ofNat (by rw [Nat.mul_add_mod, Nat.mod_eq_of_lt hr] : (10 * q + r) % 10 = r)
  rw [digR, e, if_neg (Nat.ne_of_gt hq), e2]
theorem pos_ten {q : Nat} (r : Nat) (hq : 0 < q) : 0 < 10 * q + r := Nat.add_pos_left (Nat.mul_pos (by decide) hq) r
theorem digR_three {a b c n : Nat} (ha : a < 10) (hb : b < 10) (hc : c < 10) (hn : 0 < n) : digR (1000 * n + (100 * a + 10 * b + c)) = [48 + (c : Int), 48 + (b : Int), 48 + (a : Int)] ++ digR n := by
  rw [show 1000 * n + (100 * a + 10 * b + c) = 10 * (10 * (10 * n + a) + b) + c by omega, digR_cons hc (pos_ten _ (pos_ten _ hn)), digR_cons hb (pos_ten _ hn), digR_cons ha hn]
  rfl
theorem digR_first {a b c : Nat} (ha : a < 10) (ha0 : 0 < a) (hb : b < 10) (hc : c < 10) : digR (100 * a + 10 * b + c) = [48 + (c : Int), 48 + (b : Int), 48 + (a : Int)] := by
  rw [show 100 * a + 10 * b + c = 10 * (10 * a + b) + c by omega, digR_cons hc (pos_ten _ ha0), digR_cons hb ha0, digR_single ha]
theorem pos_three {a : Nat} (b c : Nat) (ha0 : 0 < a) : 100 ≤ 100 * a + 10 * b + c :=
  Nat.le_trans (Nat.mul_le_mul_left 100 ha0) (Nat.le_trans (Nat.le_add_right _ _) (Nat.le_add_right _ _))
theorem rpN_pos : ∀ n, 0 < n → 0 < rpN n
  | n + 1, _ => by show 0 < 1000 * rpN n + 1; omega
theorem digR_block {a b c : Nat} (ha : a < 10) (ha0 : 0 < a) (hb : b < 10) (hc : c < 10) : ∀ n : Nat, digR ((100 * a + 10 * b + c) * rpN (n + 1)) = (List.replicate (n + 1) [48 + (c : Int), 48 + (b : Int), 48 + (a : Int)]).flatten
  | 0 => by
    show digR ((100 * a + 10 * b + c) * 1) = _
    rw [Nat.mul_one, digR_first ha ha0 hb hc]; rfl
  | n + 1 => by
    have e : (100 * a + 10 * b + c) * rpN (n + 1 + 1) = 1000 * ((100 * a + 10 * b + c) * rpN (n + 1)) + (100 * a + 10 * b + c) := by
      show _ * (1000 * rpN (n + 1) + 1) = _
      rw [Nat.mul_add, Nat.mul_one, Nat.mul_left_comm]
    have hp : 0 < (100 * a + 10 * b + c) * rpN (n + 1) := Nat.mul_pos (Nat.lt_of_lt_of_le (by decide) (pos_three b c ha0)) (rpN_pos _ (Nat.succ_pos n))
    rw [e, digR_three ha hb hc hp, digR_block ha ha0 hb hc n, List.replicate_succ (n := n + 1), List.flatten_cons]
theorem rep_rev {α β : Type} (f : α → β) (l : List α) : ∀ n : Nat, ((List.replicate n l).flatten.reverse).map f = (List.replicate n (l.reverse.map f)).flatten
  | 0 => rfl
  | n + 1 => by
    rw [List.replicate_succ, List.flatten_cons, List.reverse_append, List.map_append, rep_rev f l n]
    have : List.replicate (n + 1) (l.reverse.map f) = List.replicate n (l.reverse.map f) ++ [l.reverse.map f] := List.replicate_succ'
    rw [this, List.flatten_append]
    simp
def numFW (f : Str) (v : Int) : Prop := 0 ≤ v ∧ f = digS v.toNat ∧ smallI v ∧ (v = 0 ∨ 100 ≤ v)
theorem numFW_zero : numFW (Str.ofString "0") 0 := by
  have e : digR 0 = [48] := by rw [digR_one (by decide)]; rfl
  refine ⟨by decide, ?_, ?_, .inl rfl⟩
  · show _ = digS 0
    unfold digS; rw [e]; decide +kernel
  · show (digR 0).length ≤ _
    rw [e]; decide
theorem numFW_block {one other last times : Int} (h1 : 1 ≤ one) (h2 : one < 10) (h3 : 0 ≤ other) (h4 : other < 10) (h5 : 0 ≤ last) (h6 : last < 10) (h7 : 1 ≤ times) (h8 : times ≤ 1434) :
    numFW (repF (fig one ++ fig other ++ fig last) times.toNat) ((100 * one + 10 * other + last) * rp times) := by
  obtain ⟨a, rfl⟩ := Int.eq_ofNat_of_zero_le (Int.le_trans (by decide) h1)
  obtain ⟨b, rfl⟩ := Int.eq_ofNat_of_zero_le h3
  obtain ⟨c, rfl⟩ := Int.eq_ofNat_of_zero_le h5
  obtain ⟨t, rfl⟩ := Int.eq_ofNat_of_zero_le (Int.le_trans (by decide) h7)
  obtain ⟨n, rfl⟩ := Nat.exists_eq_add_one_of_ne_zero (n := t) (by rintro rfl; exact absurd h7 (by decide))
  have ha0 : 0 < a := Int.ofNat_lt.mp (Int.lt_of_lt_of_le (by decide) h1)
  rw [rp_nat, Int.toNat_natCast]
  have e : (100 * (a : Int) + 10 * (b : Int) + (c : Int)) * (rpN (n + 1) : Int) = (((100 * a + 10 * b + c) * rpN (n + 1) : Nat) : Int) := by
    rw [Int.natCast_mul]; rfl
  rw [e]
  have hd := digR_block (a := a) (b := b) (c := c) (Int.ofNat_lt.mp h2) ha0 (Int.ofNat_lt.mp h4) (Int.ofNat_lt.mp h6) n
  refine ⟨Int.natCast_nonneg _, ?_, ?_, .inr ?_⟩
  · rw [Int.toNat_natCast]
    unfold digS repF
    rw [hd, rep_rev]
    congr 3
  · unfold smallI
    rw [Int.natAbs_natCast, hd, List.length_flatten, List.map_replicate, List.sum_replicate_nat]
    exact Nat.le_trans (Nat.mul_le_mul_right 3 (Int.ofNat_le.mp h8 : n + 1 ≤ 1434)) (by decide)
  · exact Int.ofNat_le.mpr (Nat.mul_le_mul (pos_three b c ha0) (rpN_pos (n + 1) (Nat.succ_pos n)) : 100 * 1 ≤ (100 * a + 10 * b + c) * rpN (n + 1))

local macro_rules | `(tactic| walk_at "call ref") => `(tactic| (k_here; (with_reducible show wpAny _ _ (call (Value.ref 113) _) _ _ _); k_dflt (apply draw_k); (iterate 13 walk_at "zz e"); walk_at "zz s"))
local macro_rules | `(tactic| walk_at "subscriptTail Name Name str int") => `(tactic| (k_here; with_reducible apply fig_item; (iterate 2 omega); with_unfolding_all rfl; (intro; with_unfolding_all rfl)))
local macro_rules | `(tactic| walk_at "subscriptTail Name BinOp str int") => `(tactic| (k_here; with_reducible apply fig_item; (iterate 2 omega); with_unfolding_all rfl; (intro; with_unfolding_all rfl)))

local macro_rules | `(tactic| walk_at "binaryOp Mult str int") => `(tactic| (k_here; with_reducible apply mul_fig; (iterate 2 omega); intros))
local macro_rules | `(tactic| walk_at "binaryOp Pow int int") => `(tactic| (k_here; with_reducible apply pw_step; (iterate 2 omega)))
local macro_rules | `(tactic| walk_at "binaryOp Mult int int") => `(tactic| (k_here; with_reducible apply mul_step; (iterate 3 omega)))
variable {o nums : Obj}
theorem lnum_h {times : Int} {tm : Tok} (B : Below A₀ base outer h₀) (F : Fr h₀ L s.heap m) (X : (hd.heap_39 w.params).In h₀) (N : News h₀ L s.heap ((tp, o) :: (np, nums) :: rest)) (T : Top hd.view_39 lo mean mg mb h₀) (hk : cs.kind = .function) (hd' : dp + 20 < recursionLimit) (hu : un + 120 < cLine)
  (h2 : ∀ p ∈ rest, p.1 ≠ tp) (hne : @Ne Nat np tp) (hT : TapeO tp np o) (hN : NumsO nums) (ht0 : 0 ≤ times) (ht1 : times ≤ 1434)
  (ret : ∀ (r : Addr) (f : Str) (v : Int) (t1 t2 : Tok) o' h' tk', Fr h₀ L h' m → News h₀ L h' ((r, tupO [.str f t1, .int v t2]) :: (tp, o') :: (np, nums) :: rest) → (∀ p ∈ (tp, o') :: (np, nums) :: rest, p.1 < r) → TapeO tp np o' → numFW f v → (times = 0 → v = 0) → Q (.ref r) { s with heap := h', toks := tk' })
  : wpAny (model PySem.Challenge.rw_pq1295_01.row.prog w) (ktrTop dp un gd cn cs L a ccd cl outer) (call (.ref 120) [.ref tp, .int times tm]) Q E s := by
  revert X
  k_fill
  intro X
  refine wpAny_call ?_
  k_dflt (refine' code_def (binds := [(Str.ofString "tape", .ref tp), (Str.ofString "times", .int times tm)]) ?k1 ?k2 ?k3 ?k4 ?k5 ?kA ?kF ?kK ?k6 ?k7 ?k8 ?k9 ?kB ?_ ?c2 ?c3 ?c4 ?c5; (case kA => exact rfl); (case kF => exact rfl); (case kK => assumption); (case k1 => k_asm); (case k2 => k_asm); (case k3 => k_asm); (case k4 => k_asm); (case k5 => k_asm); (case k6 => k_is); (case k7 => k_is); (case k8 => ktr_room); (case k9 => exact BindsTo.of_eq rfl); (case c5 => decide); (case kB => exact locs rfl); (case c2 => exact rfl); (case c3 => exact rfl); (case c4 => exact rfl); k_whole; intro g' L' h' FG' F' N' B' X' T'; (try dsimp only); (try k_lift B'); (try k_fold))

  k_steps
  · rename times = 0 => hz
    rename _ ∧ _ ∧ _ ∧ AllLt _ rest => hlt
    rename Fr h₀ L _ _ => F2
    rename News h₀ L _ _ => N2
    refine ret _ _ _ _ _ _ _ _ F2 (news_sub2 N2) (allLt_mem _ hlt.2) (by assumption) numFW_zero (fun _ => rfl)
  · rename times ≠ 0 => hz
    rename _ ∧ _ ∧ _ ∧ AllLt _ rest => hlt
    rename Fr h₀ L _ _ => F2
    rename News h₀ L _ _ => N2
    refine ret _ _ _ _ _ _ _ _ F2 (news_sub2 N2) (allLt_mem _ hlt.2) (by assumption) (numFW_block ?_ ?_ ?_ ?_ ?_ ?_ ?_ ?_) (fun h => absurd h hz) <;> omega
theorem lnum_k {nw : Obj → List (Addr × Obj)} {times : Int} {tm : Tok} (B : Below A₀ base outer h₀) (F : Fr h₀ L s.heap m) (X : (hd.heap_39 w.params).In h₀) (N : News h₀ L s.heap (news)) (T : Top hd.view_39 lo mean mg mb h₀) (hk : cs.kind = .function) (hd' : dp + 20 < recursionLimit) (hu : un + 120 < cLine)
  (U : ∀ o', Upd tp o o' news (nw o')) (hT : TapeO tp np o) (hN : NumsO nums) (hn : (np, nums) ∈ news) (ht0 : 0 ≤ times) (ht1 : times ≤ 1434)
  (ret : ∀ (r : Addr) (f : Str) (v : Int) (t1 t2 : Tok) o' h' tk', Fr h₀ L h' m → News h₀ L h' ((r, tupO [.str f t1, .int v t2]) :: nw o') → @Ne Nat r tp → TapeO tp np o' → numFW f v → (times = 0 → v = 0) → Q (.ref r) { s with heap := h', toks := tk' })
  : wpAny (model PySem.Challenge.rw_pq1295_01.row.prog w) (ktrTop dp un gd cn cs L a ccd cl outer) (call (.ref 120) [.ref tp, .int times tm]) Q E s := by
  have hne : @Ne Nat tp np := by obtain ⟨_, _, _, _, _, _, _, _, h⟩ := hT; exact h
  obtain ⟨rest, N', h2, hR, hL⟩ := upd_lift N U hn hne
  refine lnum_h B F X N' T hk hd' hu h2 (Ne.symm hne) hT hN ht0 ht1 ?_
  intro r f v t1 t2 o' h' tk' F2 N2 hlt hTO hf hz
  exact ret r f v t1 t2 o' h' tk' F2 (hR _ _ [_] N2) (Nat.ne_of_gt (hlt _ (.head _))) hTO hf hz


def wholeL (p : List Nat) : Option Int := wholeO (p.map fun c : Nat => Int.ofNat c)
def cat47 : List (List Nat) → List Nat
  | [] => []
  | [a] => a
  | a :: b :: r => a ++ 47 :: cat47 (b :: r)
theorem join47 : ∀ l : List Str, (Str.join ⟨#[47]⟩ l).cps.toList = cat47 (l.map (·.cps.toList))
  | [] => rfl
  | [a] => rfl
  | a :: b :: r => by
    have ih := join47 (b :: r)
    show (a ++ ⟨#[47]⟩ ++ Str.join ⟨#[47]⟩ (b :: r)).cps.toList = a.cps.toList ++ 47 :: cat47 ((b :: r).map (·.cps.toList))
    rw [← ih]
    simp [Str.cps_append]
theorem cut_eq (a : List Nat) : ∀ (b X Y : List Nat), 47 ∉ a → 47 ∉ b → a ++ 47 :: X = b ++ 47 :: Y → a = b ∧ X = Y := by
  induction a with
  | nil =>
    intro b X Y _ hb h
    rcases b with _ | ⟨c, b⟩
    · exact ⟨rfl, (List.cons.inj h).2⟩
    · exact absurd (.head _) ((List.cons.inj h).1 ▸ hb)
  | cons c a ih =>
    intro b X Y ha hb h
    rcases b with _ | ⟨d, b⟩
    · exact absurd (.head _) ((List.cons.inj h).1.symm ▸ ha)
    · have e := List.cons.inj h
      have ih' := ih b X Y (fun k => ha (.tail _ k)) (fun k => hb (.tail _ k)) e.2
      exact ⟨by rw [e.1, ih'.1], ih'.2⟩
theorem cat47_inj (ps : List (List Nat)) : ∀ qs : List (List Nat), ps ≠ [] → qs ≠ [] → (∀ p ∈ ps, 47 ∉ p) → (∀ p ∈ qs, 47 ∉ p) → cat47 ps = cat47 qs → ps = qs := by
  induction ps with
  | nil => exact fun _ h => absurd rfl h
  | cons a r ih =>
    intro qs _ hq ha hb h
    rcases qs with _ | ⟨b, t⟩
    · exact absurd rfl hq
    rcases r with _ | ⟨c, r⟩
    · rcases t with _ | ⟨d, t⟩
      · rw [show a = b from h]
      · exact absurd (by rw [show a = b ++ 47 :: cat47 (d :: t) from h]; simp) (ha a (.head _))
    · rcases t with _ | ⟨d, t⟩
      · exact absurd (by rw [← show a ++ 47 :: cat47 (c :: r) = b from h]; simp) (hb b (.head _))
      · have e := cut_eq a b (cat47 (c :: r)) (cat47 (d :: t)) (ha a (.head _)) (hb b (.head _)) h
        have ih' := ih (d :: t) (by simp) (by simp) (fun p hp => ha p (.tail _ hp)) (fun p hp => hb p (.tail _ hp)) e.2
        rw [e.1, ih']
theorem split47 (x : Str) (ps : List (List Nat)) (hne : ps ≠ []) (hf : ∀ p ∈ ps, 47 ∉ p) (hx : x.cps.toList = cat47 ps) : (Txt.split x (Str.ofString "/")).map wholeS = ps.map wholeL := by
  have e0 : Str.ofString "/" = (⟨#[47]⟩ : Str) := by decide +kernel
  rw [e0]
  have e : (Txt.split x ⟨#[47]⟩).map (·.cps.toList) = ps := by
    refine cat47_inj _ _ ?_ hne ?_ hf ?_
    · intro h
      have := split_pos x (⟨#[47]⟩ : Str)
      rw [List.map_eq_nil_iff] at h
      rw [h] at this
      exact absurd this (by decide)
    · intro p hp
      obtain ⟨q, hq, rfl⟩ := List.mem_map.mp hp
      exact StrLaws.split_free x 47 q hq
    · rw [← join47, StrLaws.join_split, hx]
  rw [← e, List.map_map]
  rfl
theorem take_rep {g : Nat → Bool} (h : g 32 = true) {a : Nat} (ha : g a = false) (r : List Nat) : ∀ i, ((List.replicate i 32 ++ (a :: r)).takeWhile g).length = i
  | 0 => by simp [ha]
  | i + 1 => by
    rw [List.replicate_succ, List.cons_append, List.takeWhile_cons, h, if_pos rfl, List.length_cons, take_rep h ha r i]
theorem strip32 (x : Str) {i j : Nat} {mid r s : List Nat} {a b : Nat} (hx : x.cps.toList = List.replicate i 32 ++ mid ++ List.replicate j 32) (h1 : mid = a :: r) (h2 : mid = s ++ [b]) (ha : a ≠ 32) (hb : b ≠ 32) :
    (Txt.stripChars x (Str.ofString " ")).cps.toList = mid := by
  have e0 : Str.ofString " " = (⟨#[32]⟩ : Str) := by decide +kernel
  rw [e0]
  show (Txt.stripBy _ true true x).cps.toList = mid
  rw [PyProof.Rows.stripBy_eq, StrLaws.strSub_toList]
  generalize hg : (⟨#[32]⟩ : Str).cps.contains = g
  have g32 : g 32 = true := by rw [← hg]; decide +kernel
  have gne : ∀ c, c ≠ 32 → g c = false := by
    intro c hc
    rw [← hg]
    simp [hc]
  have hlo : stripLo g true x = i := by
    show (x.cps.toList.takeWhile g).length = i
    rw [hx, h1, List.append_assoc, List.cons_append]
    exact take_rep g32 (gne a ha) _ i
  rw [hlo]
  have hdrop : x.cps.toList.drop i = mid ++ List.replicate j 32 := by
    rw [hx, List.append_assoc, List.drop_append_of_le_length (by simp), List.drop_of_length_le (by simp), List.nil_append]
  have hlen : x.length = i + mid.length + j := by
    show x.cps.size = _
    rw [← Array.length_toList, hx]
    simp
    omega
  have hhi : stripHi g true x i = i + mid.length := by
    show x.length - ((x.cps.toList.drop i).reverse.takeWhile g).length = _
    rw [hdrop, List.reverse_append, List.reverse_replicate]
    have e1 : mid.reverse = b :: s.reverse := by rw [h2]; simp
    rw [e1, take_rep g32 (gne b hb) _ j, hlen, Nat.add_sub_cancel]
  rw [hhi, hdrop, Nat.add_sub_cancel_left, List.take_append_of_le_length (Nat.le_refl _), List.take_length]
theorem slice_one (x : Str) {a : Nat} {r : List Nat} (h : x.cps.toList = a :: r) : Txt.slice x none (some 1) = ⟨#[a]⟩ := by
  show StrLaws.sliceText x none (some 1) = _
  rw [StrLaws.sliceText_to ⟨by decide, by rw [h, List.length_cons]; omega⟩, h]
  rfl
theorem slice_tail (x : Str) {a : Nat} {r : List Nat} (h : x.cps.toList = a :: r) : (Txt.slice x (some 1) none).cps.toList = r := by
  show (StrLaws.sliceText x (some 1) none).cps.toList = _
  rw [StrLaws.sliceText_from ⟨by decide, by rw [h, List.length_cons]; omega⟩, h]
  simp
theorem slice_all (x : Str) : (Txt.slice x (some 0) none).cps.toList = x.cps.toList := by
  show (StrLaws.sliceText x (some 0) none).cps.toList = _
  rw [StrLaws.sliceText_from ⟨by decide, by omega⟩]
  simp only [Int.toNat_zero, List.drop_zero, Int.sub_zero, Int.toNat_natCast, List.take_length]
theorem num_less (x : Str) {i j : Nat} {r s : List Nat} {b : Nat} {ps : List (List Nat)} (hx : x.cps.toList = List.replicate i 32 ++ (45 :: r) ++ List.replicate j 32) (h2 : 45 :: r = s ++ [b]) (hb : b ≠ 32)
    (hne : ps ≠ []) (hf : ∀ p ∈ ps, 47 ∉ p) (hr : r = cat47 ps) : numR x = numOf true (ps.map wholeL) := by
  have hs := strip32 x hx rfl h2 (by decide) hb
  rw [numR_less]
  · rw [split47 _ ps hne hf]
    rw [slice_tail _ hs, hr]
  · rw [slice_one _ hs]; decide +kernel
theorem num_more (x : Str) {i j : Nat} {mid r s : List Nat} {a b : Nat} {ps : List (List Nat)} (hx : x.cps.toList = List.replicate i 32 ++ mid ++ List.replicate j 32) (h1 : mid = a :: r) (h2 : mid = s ++ [b]) (ha : a ≠ 32) (ha' : a ≠ 45) (hb : b ≠ 32)
    (hne : ps ≠ []) (hf : ∀ p ∈ ps, 47 ∉ p) (hr : mid = cat47 ps) : numR x = numOf false (ps.map wholeL) := by
  have hs := strip32 x hx h1 h2 ha hb
  rw [numR_not]
  · rw [split47 _ ps hne hf]
    rw [slice_all, hs, hr]
  · rw [slice_one _ (hs.trans h1)]
    have e0 : Str.ofString "-" = (⟨#[45]⟩ : Str) := by decide +kernel
    rw [e0]
    apply beq_false_of_ne
    intro h
    injection h with h
    have := congrArg Array.toList h
    simp at this
    exact ha' this
def IsD (l : List Nat) : Prop := l ≠ [] ∧ ∀ c ∈ l, 48 ≤ c ∧ c ≤ 57
theorem IsD.free {l : List Nat} (h : IsD l) : 47 ∉ l := fun k => by have := h.2 _ k; omega
theorem whole_bad {p : List Nat} {c : Nat} (hc : c ∈ p) (h : ¬ (48 ≤ c ∧ c ≤ 57)) : wholeL p = none := by
  obtain ⟨s, t, rfl⟩ := List.append_of_mem hc
  unfold wholeL
  rw [List.map_append, List.map_cons]
  refine wholeO_bad rfl (d := Int.ofNat c) ?_
  intro k
  apply h
  have k1 : (48 : Int) ≤ (c : Int) := k.1
  have k2 : (c : Int) ≤ 57 := k.2
  omega
def digL (n : Nat) : List Nat := (digR n).reverse.map Int.toNat
theorem digS_list (n : Nat) : (digS n).cps.toList = digL n := rfl
theorem digL_isD (n : Nat) : IsD (digL n) := by
  refine ⟨?_, ?_⟩
  · unfold digL
    rw [digR]
    simp
  · intro c hc
    obtain ⟨x, hx, rfl⟩ := List.mem_map.mp hc
    have := digR_mem n x (List.mem_reverse.mp hx)
    omega
theorem fold_dig (n : Nat) : ((digR n).reverse).foldl wholeF 0 = (n : Int) := by
  induction n using Nat.strongRecOn with
  | _ n ih =>
    rw [digR]
    by_cases h : n / 10 = 0
    · rw [if_pos h]
      show wholeF 0 (48 + (n : Int) % 10) = _
      unfold wholeF; omega
    · rw [if_neg h, List.reverse_cons, List.foldl_append, ih (n / 10) (by omega)]
      show wholeF ((n / 10 : Nat) : Int) (48 + (n : Int) % 10) = _
      unfold wholeF; omega
theorem digL_ints (n : Nat) : (digL n).map (fun c : Nat => Int.ofNat c) = (digR n).reverse := by
  unfold digL
  rw [List.map_map]
  refine (List.map_congr_left (g := id) ?_).trans (List.map_id _)
  intro x hx
  have := digR_mem n x (List.mem_reverse.mp hx)
  show ((x.toNat : Nat) : Int) = x
  omega
theorem fold_zero : ∀ k : Nat, (List.replicate k (48 : Int)).foldl wholeF 0 = 0
  | 0 => rfl
  | k + 1 => by rw [List.replicate_succ, List.foldl_cons]; exact fold_zero k
theorem isD_zero {k : Nat} {l : List Nat} (h : IsD l) : IsD (List.replicate k 48 ++ l) := by
  refine ⟨?_, ?_⟩
  · intro e
    exact h.1 (List.append_eq_nil_iff.mp e).2
  · intro c hc
    rcases List.mem_append.mp hc with hc | hc
    · rw [List.eq_of_mem_replicate hc]; decide
    · exact h.2 c hc
theorem whole_dig (k n : Nat) : wholeL (List.replicate k 48 ++ digL n) = some (n : Int) := by
  have hd := isD_zero (k := k) (digL_isD n)
  unfold wholeL wholeO
  rw [if_neg (by rw [List.length_map]; intro h; exact hd.1 (List.eq_nil_of_length_eq_zero h)), if_pos]
  · rw [List.map_append, List.foldl_append, List.map_replicate, digL_ints]
    have := fold_zero k
    show some (List.foldl wholeF (List.foldl wholeF 0 (List.replicate k 48)) (digR n).reverse) = _
    rw [this, fold_dig]
  · rw [List.all_eq_true]
    intro x hx
    obtain ⟨c, hc, rfl⟩ := List.mem_map.mp hx
    have := hd.2 c hc
    apply decide_eq_true
    exact ⟨Int.ofNat_le.mpr this.1, Int.ofNat_le.mpr this.2⟩
theorem isD_ends {l : List Nat} (h : IsD l) : (∃ a r, l = a :: r ∧ 48 ≤ a ∧ a ≤ 57) ∧ ∃ s b, l = s ++ [b] ∧ 48 ≤ b ∧ b ≤ 57 := by
  refine ⟨?_, ?_⟩
  · cases l with
    | nil => exact absurd rfl h.1
    | cons a r => exact ⟨a, r, rfl, h.2 a (.head _)⟩
  · have e := (List.dropLast_concat_getLast h.1).symm
    exact ⟨_, _, e, h.2 _ (List.getLast_mem h.1)⟩
theorem numOf_bad {b : Bool} {os : List (Option Int)} (h : none ∈ os) : numOf b os = none := by
  by_cases hb : 2 < os.length
  · exact numOf_big hb
  · exact numOf_no hb (List.any_eq_true.mpr ⟨none, h, rfl⟩)


theorem pick_tup {prog : Program} {w : World} {A : Around} {E : Value → Shared → Prop} {s : Shared} {value slice : PySem.Expr} {l : Addr} {vs : List Value} {i : Int} {u : Tok} {Q : Value → Shared → Prop}
    (ht : IsTup s.heap l vs.toArray) (h0 : 0 ≤ i) (h1 : i < (vs.length : Int)) (hfit : i < 2 ^ 63) (h : ∀ y, vs[i.toNat]? = some y → Q y s)
    (hs : subscripted slice false (.ref l) (.int i u) = operate [.ref l, .int i u] (getItem (.ref l) (.int i u)) := by with_unfolding_all rfl) :
    wpAny (model prog w) A (subscriptTail value slice (.ref l) (.int i u)) Q E s := by
  have hlt : i.toNat < vs.length := by omega
  have hn : i < ((vs.toArray.size : Nat) : Int) := by rw [List.size_toArray]; exact h1
  have e := List.getElem?_eq_getElem hlt
  exact tail_any ht.typeIs PySem.F.slot_tuple_getitem.lookup (getItem_tuple ht (by omega) hfit (seqIndex_of h0 hn) (x := vs[i.toNat]) (by simpa using e) (h _ e)) hs
def isStrV : Value → Bool
  | .str _ _ => true
  | _ => false
theorem isStrV_of {y : Value} (h : isStrV y = true) : ∃ x t, y = Value.str x t := by
  cases y with
  | str x t => exact ⟨x, t, rfl⟩
  | _ => cases h
def okStr (m : Int) (vs : List Value) : Bool := vs.all isStrV && (decide (m ≤ vs.length) && decide (m ≤ 99))
theorem pick_str {prog : Program} {w : World} {A : Around} {E : Value → Shared → Prop} {s : Shared} {value slice : PySem.Expr} {h₀ : Heap} {L l : Addr} {vs : List Value} {news : List (Addr × Obj)} {i : Int} {u : Tok} {Q : Value → Shared → Prop}
    (N : News h₀ L s.heap news) (hm : (l, ({ cls := .type "tuple", data := .seq vs.toArray } : Obj)) ∈ news) (hstr : ∀ y ∈ vs, ∃ x t, y = Value.str x t) (h0 : 0 ≤ i) (h1 : i < (vs.length : Int)) (hfit : i < 2 ^ 63)
    (hs : subscripted slice false (.ref l) (.int i u) = operate [.ref l, .int i u] (getItem (.ref l) (.int i u))) (h : ∀ x t, Q (.str x t) s) : wpAny (model prog w) A (subscriptTail value slice (.ref l) (.int i u)) Q E s :=
  pick_tup ⟨_, (N _ hm).1, rfl, _, rfl⟩ h0 h1 hfit (fun y hy => by
    obtain ⟨x, t, rfl⟩ := hstr y (List.mem_of_getElem? hy)
    exact h x t) hs
theorem pick_nm {prog : Program} {w : World} {A : Around} {E : Value → Shared → Prop} {s : Shared} {value slice : PySem.Expr} {h₀ : Heap} {L l : Addr} {vs : List Value} {news : List (Addr × Obj)} {i m : Int} {u : Tok} {Q : Value → Shared → Prop}
    (N : News h₀ L s.heap news) (hm : (l, ({ cls := .type "tuple", data := .seq vs.toArray } : Obj)) ∈ news) (h0 : 0 ≤ i) (h1 : i < m) (hc : okStr m vs = true)
    (hs : subscripted slice false (.ref l) (.int i u) = operate [.ref l, .int i u] (getItem (.ref l) (.int i u))) (h : ∀ x t, Q (.str x t) s) : wpAny (model prog w) A (subscriptTail value slice (.ref l) (.int i u)) Q E s := by
  unfold okStr at hc
  simp only [Bool.and_eq_true, decide_eq_true_eq, List.all_eq_true] at hc
  exact pick_str N hm (fun y hy => isStrV_of (hc.1 y hy)) h0 (Int.lt_of_lt_of_le h1 hc.2.1) (Int.lt_trans (Int.lt_of_lt_of_le h1 hc.2.2) (by decide)) hs h
theorem pick_four {prog : Program} {w : World} {A : Around} {E : Value → Shared → Prop} {s : Shared} {value slice : PySem.Expr} {h₀ : Heap} {L l : Addr} {vs : List Value} {news : List (Addr × Obj)} {d : Int} {u : Tok} {Q : Value → Shared → Prop}
    (N : News h₀ L s.heap news) (hm : (l, ({ cls := .type "tuple", data := .seq vs.toArray } : Obj)) ∈ news) (h0 : 0 ≤ d) (h1 : d < 5) (hc : okStr 2 vs = true)
    (hs : subscripted slice false (.ref l) (.int (d.fdiv 4) u) = operate [.ref l, .int (d.fdiv 4) u] (getItem (.ref l) (.int (d.fdiv 4) u))) (h : ∀ x t, Q (.str x t) s) : wpAny (model prog w) A (subscriptTail value slice (.ref l) (.int (d.fdiv 4) u)) Q E s := by
  have e : d.fdiv 4 = d / 4 := Int.fdiv_eq_ediv_of_nonneg _ (by decide)
  exact pick_nm N hm (m := 2) (by rw [e]; exact Int.ediv_nonneg h0 (by decide)) (by rw [e]; omega) hc hs h
theorem pick_0 {prog : Program} {w : World} {A : Around} {E : Value → Shared → Prop} {s : Shared} {value slice : PySem.Expr} {h₀ : Heap} {L l : Addr} {vs : List Value} {news : List (Addr × Obj)} {u : Tok} {Q : Value → Shared → Prop}
    (N : News h₀ L s.heap news) (hm : (l, ({ cls := .type "tuple", data := .seq vs.toArray } : Obj)) ∈ news) (hstr : ∀ y ∈ vs, ∃ x t, y = Value.str x t) (h1 : 1 ≤ vs.length)
    (hs : subscripted slice false (.ref l) (.int 0 u) = operate [.ref l, .int 0 u] (getItem (.ref l) (.int 0 u))) (h : ∀ x t, Q (.str x t) s) : wpAny (model prog w) A (subscriptTail value slice (.ref l) (.int 0 u)) Q E s :=
  pick_str N hm hstr (by decide) (by omega) (by decide) hs h
def lenOk (m : Int) (vs : List Value) : Bool := decide (m ≤ vs.length) && decide (m ≤ 99)
theorem pick_K {prog : Program} {w : World} {A : Around} {E : Value → Shared → Prop} {s : Shared} {value slice : PySem.Expr} {V : Value → Prop} {K : Frag} {vs : List Value} {n : Nat} {d : Option Addr} {sl : Array (Option Value)} {l : Addr} {i m : Int} {u : Tok} {Q : Value → Shared → Prop}
    (X : K.In s.heap) (e : K.lookup l = some { cls := .type "tuple", dict := d, data := .seq vs.toArray n, slots := sl }) (hv : ∀ y ∈ vs, V y) (h0 : 0 ≤ i) (h1 : i < m) (hl : lenOk m vs = true)
    (hs : subscripted slice false (.ref l) (.int i u) = operate [.ref l, .int i u] (getItem (.ref l) (.int i u))) (h : ∀ y, V y → Q y s) : wpAny (model prog w) A (subscriptTail value slice (.ref l) (.int i u)) Q E s := by
  unfold lenOk at hl
  simp only [Bool.and_eq_true, decide_eq_true_eq] at hl
  exact pick_tup (vs := vs) ⟨_, X _ _ e, rfl, _, rfl⟩ h0 (Int.lt_of_lt_of_le h1 hl.1) (Int.lt_trans (Int.lt_of_lt_of_le h1 hl.2) (by decide)) (fun y hy => h y (hv y (List.mem_of_getElem? hy))) hs


def RowOK (less : Bool) (above beneath : Str) (p q : Int) : Prop := (less = true → p ≤ 0) ∧ (less = false → 0 ≤ p) ∧ above = digS p.natAbs ∧ 1 ≤ q ∧ beneath = (if q = 1 then Str.ofString "" else digS q.natAbs) ∧ smallI p ∧ smallI q
theorem smallI_ten {q : Int} (h0 : 0 ≤ q) (h1 : q < 10) : smallI q := by
  obtain ⟨k, rfl⟩ := Int.eq_ofNat_of_zero_le h0
  show (digR k).length ≤ 4500
  rw [digR_single (Int.ofNat_lt.mp h1)]; show 1 ≤ 4500; decide
theorem fig_dig {i : Int} (h0 : 0 ≤ i) (h1 : i < 10) : fig i = digS i.natAbs := by
  obtain ⟨k, rfl⟩ := Int.eq_ofNat_of_zero_le h0
  show fig (k : Int) = digS k
  unfold fig digS
  rw [digR_single (Int.ofNat_lt.mp h1)]
  rfl
theorem dig_fig {n : Nat} (h1 : n < 10) : digS n = fig (n : Int) := (fig_dig (i := (n : Int)) (Int.natCast_nonneg n) (Int.ofNat_lt.mpr h1)).symm
theorem one_dec {d : Int} (h : d = 1) : (d == 1) = true := by rw [h]; rfl
theorem one_dec' {d : Int} (h : d ≠ 1) : (d == 1) = false := by simpa using h
theorem row1_less {d v : Int} {f : Str} (h : d = 1) (w : numFW f v) : RowOK (d == 1) f (Str.ofString "") (0 - v) 1 := by
  obtain ⟨h0, rfl, hs, _⟩ := w
  rw [one_dec h]
  refine ⟨fun _ => Int.sub_nonpos_of_le h0, (fun h => nomatch h), by rw [nat_sub, nat_pos h0], by decide, rfl, ?_, smallI_ten (by decide) (by decide)⟩
  unfold smallI at hs ⊢
  rw [nat_sub]; exact hs
theorem row1_more {d v : Int} {f : Str} (h : d ≠ 1) (w : numFW f v) : RowOK (d == 1) f (Str.ofString "") v 1 := by
  obtain ⟨h0, rfl, hs, _⟩ := w
  rw [one_dec' h]
  exact ⟨(fun h => nomatch h), fun _ => h0, by rw [nat_pos h0], by decide, rfl, hs, smallI_ten (by decide) (by decide)⟩
theorem row2_k {k : Int} (h0 : 0 ≤ k) (h1 : k < 8) : 1 ≤ k + 2 ∧ fig (k + 2) = (if k + 2 = 1 then Str.ofString "" else digS (k + 2).natAbs) ∧ smallI (k + 2) := by
  have a : 0 ≤ k + 2 := Int.add_nonneg h0 (by decide)
  have b : k + 2 < 10 := Int.add_lt_add_right h1 2
  have c : 2 ≤ k + 2 := Int.le_add_of_nonneg_left h0
  refine ⟨Int.le_trans (by decide) c, ?_, smallI_ten a b⟩
  rw [if_neg (fun e => absurd (e ▸ c) (by decide))]
  exact fig_dig a b
theorem row2_less {d v k : Int} {f : Str} (h : d = 1) (w : numFW f v) (h0 : 0 ≤ k) (h1 : k < 8) : RowOK (d == 1) f (fig (k + 2)) (0 - v) (k + 2) := by
  obtain ⟨a, b, c, _, _, e, _⟩ := row1_less h w
  obtain ⟨x, y, z⟩ := row2_k h0 h1
  exact ⟨a, b, c, x, y, e, z⟩
theorem row2_more {d v k : Int} {f : Str} (h : d ≠ 1) (w : numFW f v) (h0 : 0 ≤ k) (h1 : k < 8) : RowOK (d == 1) f (fig (k + 2)) v (k + 2) := by
  obtain ⟨a, b, c, _, _, e, _⟩ := row1_more h w
  obtain ⟨x, y, z⟩ := row2_k h0 h1
  exact ⟨a, b, c, x, y, e, z⟩
theorem row3_gen {d v k : Int} {f : Str} (w : f = digS v.natAbs) (hv : 2 ≤ v) (hs : smallI v) (h0 : 0 ≤ k) (h1 : k < 8) : (d = 1 → RowOK (d == 1) (fig k) f (0 - k) v) ∧ (d ≠ 1 → RowOK (d == 1) (fig k) f k v) := by
  have h9 : k < 10 := Int.lt_trans h1 (by decide)
  have hv1 : 1 ≤ v := Int.le_trans (by decide) hv
  have hv2 : v ≠ 1 := fun e => absurd (e ▸ hv) (by decide)
  refine ⟨fun h => ?_, fun h => ?_⟩
  · rw [one_dec h]
    refine ⟨fun _ => Int.sub_nonpos_of_le h0, (fun h => nomatch h), ?_, hv1, ?_, ?_, hs⟩
    · rw [fig_dig h0 h9, nat_sub]
    · rw [if_neg hv2]; exact w
    · have := smallI_ten h0 h9
      unfold smallI at this ⊢
      rw [nat_sub]; exact this
  · rw [one_dec' h]
    refine ⟨(fun h => nomatch h), fun _ => h0, ?_, hv1, ?_, smallI_ten h0 h9, hs⟩
    · rw [fig_dig h0 h9]
    · rw [if_neg hv2]; exact w
theorem fw_seven : Str.ofString "7" = digS (7 : Int).natAbs := by
  rw [← fig_dig (by decide) (by decide)]; decide +kernel
theorem row3_seven {d k : Int} (h0 : 0 ≤ k) (h1 : k < 8) : (d = 1 → RowOK (d == 1) (fig k) (Str.ofString "7") (0 - k) 7) ∧ (d ≠ 1 → RowOK (d == 1) (fig k) (Str.ofString "7") k 7) :=
  row3_gen fw_seven (by decide) (smallI_ten (by decide) (by decide)) h0 h1
theorem row3_num {d v k : Int} {f : Str} (w : numFW f v) (hv : v ≠ 0) (h0 : 0 ≤ k) (h1 : k < 8) : (d = 1 → RowOK (d == 1) (fig k) f (0 - k) v) ∧ (d ≠ 1 → RowOK (d == 1) (fig k) f k v) := by
  obtain ⟨a, b, c, e⟩ := w
  exact row3_gen (by rw [b, nat_pos a]) (Int.le_trans (by decide) (e.resolve_left hv)) c h0 h1
theorem news_of {h₀ : Heap} {L : Addr} {h : Heap} {l l' : List (Addr × Obj)} (N : News h₀ L h l) (hs : ∀ p ∈ l', p ∈ l) : News h₀ L h l' := fun p hp => N p (hs p hp)

def sgW (b : Bool) (v : Int) : Int := if b = true then 0 - v else v
theorem sgW_yes {d v : Int} (h : d = 1) : sgW (d == 1) v = 0 - v := by unfold sgW; rw [one_dec h, if_pos rfl]
theorem sgW_no {d v : Int} (h : d ≠ 1) : sgW (d == 1) v = v := by unfold sgW; rw [one_dec' h, if_neg (by decide)]
theorem row1_sg {d v : Int} {f : Str} (w : numFW f v) : RowOK (d == 1) f (Str.ofString "") (sgW (d == 1) v) 1 := by
  by_cases h : d = 1
  · rw [sgW_yes h]; exact row1_less h w
  · rw [sgW_no h]; exact row1_more h w
theorem row2_sg {d v k : Int} {f : Str} (w : numFW f v) (h0 : 0 ≤ k) (h1 : k < 8) : RowOK (d == 1) f (fig (k + 2)) (sgW (d == 1) v) (k + 2) := by
  by_cases h : d = 1
  · rw [sgW_yes h]; exact row2_less h w h0 h1
  · rw [sgW_no h]; exact row2_more h w h0 h1
theorem row3_sg {d v k : Int} {f : Str} (w : (d = 1 → RowOK (d == 1) (fig k) f (0 - k) v) ∧ (d ≠ 1 → RowOK (d == 1) (fig k) f k v)) : RowOK (d == 1) (fig k) f (sgW (d == 1) k) v := by
  by_cases h : d = 1
  · rw [sgW_yes h]; exact w.1 h
  · rw [sgW_no h]; exact w.2 h
def IsSg (d v : Int) (y : Value) : Prop := ∃ t, y = .int (sgW (d == 1) v) t
theorem isSg_yes {d v : Int} {t : Tok} (h : d = 1) : IsSg d v (.int (0 - v) t) := ⟨t, by rw [sgW_yes h]⟩
theorem isSg_no {d v : Int} {t : Tok} (h : d ≠ 1) : IsSg d v (.int v t) := ⟨t, by rw [sgW_no h]⟩
theorem sgcutW {prog : Program} {w : World} {A : Around} {E : Value → Shared → Prop} {s : Shared} {e : PySem.Expr} {env : Env} {Q : Value → Shared → Prop} {d v : Int} {f : Str} (_ : numFW f v) (_ : d < 2)
    (h1 : wpAny (model prog w) A (eval e env) (CutEnd (IsSg d v) s) E s) (h2 : ∀ t tk, Q (.int (sgW (d == 1) v) t) { s with toks := tk }) : wpAny (model prog w) A (eval e env) Q E s :=
  ifcut _ h1 (fun y tk ⟨t, e⟩ => e ▸ h2 t tk)
theorem sgcutK {prog : Program} {w : World} {A : Around} {E : Value → Shared → Prop} {s : Shared} {e : PySem.Expr} {env : Env} {Q : Value → Shared → Prop} {d v : Int} (_ : v < 8) (_ : d < 2)
    (h1 : wpAny (model prog w) A (eval e env) (CutEnd (IsSg d v) s) E s) (h2 : ∀ t tk, Q (.int (sgW (d == 1) v) t) { s with toks := tk }) : wpAny (model prog w) A (eval e env) Q E s :=
  ifcut _ h1 (fun y tk ⟨t, e⟩ => e ▸ h2 t tk)
def NumV (x : Addr) (Z : Obj) (v : Value) (b : Bool) (p q : Int) : Prop := (b = false ∧ q = 1 ∧ ∃ t, v = .int p t) ∨ (b = true ∧ v = .ref x ∧ ∃ u1 u2, Z = tupO [.int p u1, .int q u2])
theorem numV_int {x : Addr} {Z : Obj} {p : Int} {t : Tok} : NumV x Z (.int p t) false p 1 := .inl ⟨rfl, rfl, _, rfl⟩
theorem numV_tup {x : Addr} {p q : Int} {u1 u2 : Tok} : NumV x (tupO [.int p u1, .int q u2]) (.ref x) true p q := .inr ⟨rfl, rfl, _, _, rfl⟩

local macro_rules | `(tactic| walk_at "call ref") => `(tactic| (k_here; (with_reducible show wpAny _ _ (call (Value.ref 120) _) _ _ _); k_dflt (apply lnum_k); (iterate 14 walk_at "zz e"); walk_at "zz s"))
local macro_rules | `(tactic| walk_at "subscriptTail") => `(tactic| (k_here; (with_reducible first | apply pick_four | apply pick_nm); (iterate 5 walk_at "zz e"); with_unfolding_all rfl; intros))
section
local macro_rules | `(tactic| walk_at "eval IfExp") => `(tactic| (k_here; goal_lacks CutEnd; refine hold ?_))
theorem row_h {times sort : Int} {tm ts : Tok} (B : Below A₀ base outer h₀) (F : Fr h₀ L s.heap m) (X : (hd.heap_39 w.params).In h₀) (N : News h₀ L s.heap ((tp, o) :: (np, nums) :: rest)) (T : Top hd.view_39 lo mean mg mb h₀) (hk : cs.kind = .function) (hd' : dp + 30 < recursionLimit) (hu : un + 180 < cLine)
  (h2 : ∀ p ∈ rest, p.1 ≠ tp) (hne : @Ne Nat np tp) (hT : TapeO tp np o) (hN : NumsO nums) (ht0 : 0 ≤ times) (ht1 : times ≤ 1434) (hs0 : 0 ≤ sort) (hs1 : sort < 4)
  (ret : ∀ (r pt pr x : Addr) (Z : Obj) (v : Value) (b : Bool) (nm above beneath : Str) (less : Bool) (p q : Int) (tn ta tb t1 t2 : Tok) o' h' tk', Fr h₀ L h' m → News h₀ L h' ((r, tupO [v, .str nm tn, .ref pt, .ref pr]) :: (pt, tupO [.bool less, .str above ta, .str beneath tb]) :: (pr, tupO [.int p t1, .int q t2]) :: (x, Z) :: (tp, o') :: (np, nums) :: rest) → @Ne Nat r tp → @Ne Nat pt tp → @Ne Nat pr tp → @Ne Nat x tp → TapeO tp np o' → RowOK less above beneath p q → NumV x Z v b p q → Q (.ref r) { s with heap := h', toks := tk' })
  : wpAny (model PySem.Challenge.rw_pq1295_01.row.prog w) (ktrTop dp un gd cn cs L a ccd cl outer) (call (.ref 127) [.ref tp, .int sort ts, .int times tm]) Q E s := by
  revert X
  k_fill
  intro X
  refine wpAny_call ?_
  k_dflt (refine' code_def (binds := [(Str.ofString "tape", .ref tp), (Str.ofString "sort", .int sort ts), (Str.ofString "times", .int times tm)]) ?k1 ?k2 ?k3 ?k4 ?k5 ?kA ?kF ?kK ?k6 ?k7 ?k8 ?k9 ?kB ?_ ?c2 ?c3 ?c4 ?c5; (case kA => exact rfl); (case kF => exact rfl); (case kK => assumption); (case k1 => k_asm); (case k2 => k_asm); (case k3 => k_asm); (case k4 => k_asm); (case k5 => k_asm); (case k6 => k_is); (case k7 => k_is); (case k8 => ktr_room); (case k9 => exact BindsTo.of_eq rfl); (case c5 => decide); (case kB => exact locs rfl); (case c2 => exact rfl); (case c3 => exact rfl); (case c4 => exact rfl); k_whole; intro g' L' h' FG' F' N' B' X' T'; (try dsimp only); (try k_lift B'); (try k_fold))

  k_steps
  · refine unhold ?_
    refine sgcutW (by assumption) (by assumption) ?_ ?_
    · k_steps
      · exact ⟨isSg_yes (by assumption), _, rfl⟩
      · exact ⟨isSg_no (by assumption), _, rfl⟩
    intro tc tkc
    dsimp only
    k_steps
    rename Fr h₀ L _ _ => F2
    rename News h₀ L _ _ => N2
    exact ret _ _ _ _ _ _ _ _ _ _ _ _ _ _ _ _ _ _ _ _ _ F2 (news_of N2 (by ((repeat (refine List.forall_mem_cons.mpr ⟨(by repeat (first | exact List.Mem.head _ | refine List.Mem.tail _ ?_)), ?_⟩)); (intro p hp; repeat (first | exact hp | refine List.Mem.tail _ ?_))))) (by first | exact Nat.ne_of_gt (And.left (by with_reducible assumption)) | exact Nat.ne_of_gt (And.left (And.right (by with_reducible assumption))) | exact Nat.ne_of_gt (And.left (And.right (And.right (by with_reducible assumption)))) | exact Nat.ne_of_gt (And.left (And.right (And.right (And.right (by with_reducible assumption))))) | exact Nat.ne_of_gt (And.left (And.right (And.right (And.right (And.right (by with_reducible assumption)))))) | exact Nat.ne_of_gt (And.left (And.right (And.right (And.right (And.right (And.right (by with_reducible assumption))))))) | exact Nat.ne_of_gt (And.left (And.right (And.right (And.right (And.right (And.right (And.right (by with_reducible assumption)))))))) | exact Nat.ne_of_gt (And.left (And.right (And.right (And.right (And.right (And.right (And.right (And.right (by with_reducible assumption))))))))) | exact Nat.ne_of_gt (And.left (And.right (And.right (And.right (And.right (And.right (And.right (And.right (And.right (by with_reducible assumption)))))))))) | (refine neN ?_; omega)) (by first | exact Nat.ne_of_gt (And.left (by with_reducible assumption)) | exact Nat.ne_of_gt (And.left (And.right (by with_reducible assumption))) | exact Nat.ne_of_gt (And.left (And.right (And.right (by with_reducible assumption)))) | exact Nat.ne_of_gt (And.left (And.right (And.right (And.right (by with_reducible assumption))))) | exact Nat.ne_of_gt (And.left (And.right (And.right (And.right (And.right (by with_reducible assumption)))))) | exact Nat.ne_of_gt (And.left (And.right (And.right (And.right (And.right (And.right (by with_reducible assumption))))))) | exact Nat.ne_of_gt (And.left (And.right (And.right (And.right (And.right (And.right (And.right (by with_reducible assumption)))))))) | exact Nat.ne_of_gt (And.left (And.right (And.right (And.right (And.right (And.right (And.right (And.right (by with_reducible assumption))))))))) | exact Nat.ne_of_gt (And.left (And.right (And.right (And.right (And.right (And.right (And.right (And.right (And.right (by with_reducible assumption)))))))))) | (refine neN ?_; omega)) (by first | exact Nat.ne_of_gt (And.left (by with_reducible assumption)) | exact Nat.ne_of_gt (And.left (And.right (by with_reducible assumption))) | exact Nat.ne_of_gt (And.left (And.right (And.right (by with_reducible assumption)))) | exact Nat.ne_of_gt (And.left (And.right (And.right (And.right (by with_reducible assumption))))) | exact Nat.ne_of_gt (And.left (And.right (And.right (And.right (And.right (by with_reducible assumption)))))) | exact Nat.ne_of_gt (And.left (And.right (And.right (And.right (And.right (And.right (by with_reducible assumption))))))) | exact Nat.ne_of_gt (And.left (And.right (And.right (And.right (And.right (And.right (And.right (by with_reducible assumption)))))))) | exact Nat.ne_of_gt (And.left (And.right (And.right (And.right (And.right (And.right (And.right (And.right (by with_reducible assumption))))))))) | exact Nat.ne_of_gt (And.left (And.right (And.right (And.right (And.right (And.right (And.right (And.right (And.right (by with_reducible assumption)))))))))) | (refine neN ?_; omega)) (by first | exact Nat.ne_of_gt (And.left (by with_reducible assumption)) | exact Nat.ne_of_gt (And.left (And.right (by with_reducible assumption))) | exact Nat.ne_of_gt (And.left (And.right (And.right (by with_reducible assumption)))) | exact Nat.ne_of_gt (And.left (And.right (And.right (And.right (by with_reducible assumption))))) | exact Nat.ne_of_gt (And.left (And.right (And.right (And.right (And.right (by with_reducible assumption)))))) | exact Nat.ne_of_gt (And.left (And.right (And.right (And.right (And.right (And.right (by with_reducible assumption))))))) | exact Nat.ne_of_gt (And.left (And.right (And.right (And.right (And.right (And.right (And.right (by with_reducible assumption)))))))) | exact Nat.ne_of_gt (And.left (And.right (And.right (And.right (And.right (And.right (And.right (And.right (by with_reducible assumption))))))))) | exact Nat.ne_of_gt (And.left (And.right (And.right (And.right (And.right (And.right (And.right (And.right (And.right (by with_reducible assumption)))))))))) | (refine neN ?_; omega)) (by assumption) (row1_sg (by assumption)) numV_int
  · refine unhold ?_
    refine sgcutW (by assumption) (by assumption) ?_ ?_
    · k_steps
      · exact ⟨isSg_yes (by assumption), _, rfl⟩
      · exact ⟨isSg_no (by assumption), _, rfl⟩
    intro tc tkc
    dsimp only
    k_steps
    rename Fr h₀ L _ _ => F2
    rename News h₀ L _ _ => N2
    exact ret _ _ _ _ _ _ _ _ _ _ _ _ _ _ _ _ _ _ _ _ _ F2 (news_of N2 (by ((repeat (refine List.forall_mem_cons.mpr ⟨(by repeat (first | exact List.Mem.head _ | refine List.Mem.tail _ ?_)), ?_⟩)); (intro p hp; repeat (first | exact hp | refine List.Mem.tail _ ?_))))) (by first | exact Nat.ne_of_gt (And.left (by with_reducible assumption)) | exact Nat.ne_of_gt (And.left (And.right (by with_reducible assumption))) | exact Nat.ne_of_gt (And.left (And.right (And.right (by with_reducible assumption)))) | exact Nat.ne_of_gt (And.left (And.right (And.right (And.right (by with_reducible assumption))))) | exact Nat.ne_of_gt (And.left (And.right (And.right (And.right (And.right (by with_reducible assumption)))))) | exact Nat.ne_of_gt (And.left (And.right (And.right (And.right (And.right (And.right (by with_reducible assumption))))))) | exact Nat.ne_of_gt (And.left (And.right (And.right (And.right (And.right (And.right (And.right (by with_reducible assumption)))))))) | exact Nat.ne_of_gt (And.left (And.right (And.right (And.right (And.right (And.right (And.right (And.right (by with_reducible assumption))))))))) | exact Nat.ne_of_gt (And.left (And.right (And.right (And.right (And.right (And.right (And.right (And.right (And.right (by with_reducible assumption)))))))))) | (refine neN ?_; omega)) (by first | exact Nat.ne_of_gt (And.left (by with_reducible assumption)) | exact Nat.ne_of_gt (And.left (And.right (by with_reducible assumption))) | exact Nat.ne_of_gt (And.left (And.right (And.right (by with_reducible assumption)))) | exact Nat.ne_of_gt (And.left (And.right (And.right (And.right (by with_reducible assumption))))) | exact Nat.ne_of_gt (And.left (And.right (And.right (And.right (And.right (by with_reducible assumption)))))) | exact Nat.ne_of_gt (And.left (And.right (And.right (And.right (And.right (And.right (by with_reducible assumption))))))) | exact Nat.ne_of_gt (And.left (And.right (And.right (And.right (And.right (And.right (And.right (by with_reducible assumption)))))))) | exact Nat.ne_of_gt (And.left (And.right (And.right (And.right (And.right (And.right (And.right (And.right (by with_reducible assumption))))))))) | exact Nat.ne_of_gt (And.left (And.right (And.right (And.right (And.right (And.right (And.right (And.right (And.right (by with_reducible assumption)))))))))) | (refine neN ?_; omega)) (by first | exact Nat.ne_of_gt (And.left (by with_reducible assumption)) | exact Nat.ne_of_gt (And.left (And.right (by with_reducible assumption))) | exact Nat.ne_of_gt (And.left (And.right (And.right (by with_reducible assumption)))) | exact Nat.ne_of_gt (And.left (And.right (And.right (And.right (by with_reducible assumption))))) | exact Nat.ne_of_gt (And.left (And.right (And.right (And.right (And.right (by with_reducible assumption)))))) | exact Nat.ne_of_gt (And.left (And.right (And.right (And.right (And.right (And.right (by with_reducible assumption))))))) | exact Nat.ne_of_gt (And.left (And.right (And.right (And.right (And.right (And.right (And.right (by with_reducible assumption)))))))) | exact Nat.ne_of_gt (And.left (And.right (And.right (And.right (And.right (And.right (And.right (And.right (by with_reducible assumption))))))))) | exact Nat.ne_of_gt (And.left (And.right (And.right (And.right (And.right (And.right (And.right (And.right (And.right (by with_reducible assumption)))))))))) | (refine neN ?_; omega)) (by first | exact Nat.ne_of_gt (And.left (by with_reducible assumption)) | exact Nat.ne_of_gt (And.left (And.right (by with_reducible assumption))) | exact Nat.ne_of_gt (And.left (And.right (And.right (by with_reducible assumption)))) | exact Nat.ne_of_gt (And.left (And.right (And.right (And.right (by with_reducible assumption))))) | exact Nat.ne_of_gt (And.left (And.right (And.right (And.right (And.right (by with_reducible assumption)))))) | exact Nat.ne_of_gt (And.left (And.right (And.right (And.right (And.right (And.right (by with_reducible assumption))))))) | exact Nat.ne_of_gt (And.left (And.right (And.right (And.right (And.right (And.right (And.right (by with_reducible assumption)))))))) | exact Nat.ne_of_gt (And.left (And.right (And.right (And.right (And.right (And.right (And.right (And.right (by with_reducible assumption))))))))) | exact Nat.ne_of_gt (And.left (And.right (And.right (And.right (And.right (And.right (And.right (And.right (And.right (by with_reducible assumption)))))))))) | (refine neN ?_; omega)) (by assumption) (row1_sg (by assumption)) numV_tup
  · refine unhold ?_
    refine sgcutW (by assumption) (by assumption) ?_ ?_
    · k_steps
      · exact ⟨isSg_yes (by assumption), _, rfl⟩
      · exact ⟨isSg_no (by assumption), _, rfl⟩
    intro tc tkc
    dsimp only
    k_steps
    rename Fr h₀ L _ _ => F2
    rename News h₀ L _ _ => N2
    exact ret _ _ _ _ _ _ _ _ _ _ _ _ _ _ _ _ _ _ _ _ _ F2 (news_of N2 (by ((repeat (refine List.forall_mem_cons.mpr ⟨(by repeat (first | exact List.Mem.head _ | refine List.Mem.tail _ ?_)), ?_⟩)); (intro p hp; repeat (first | exact hp | refine List.Mem.tail _ ?_))))) (by first | exact Nat.ne_of_gt (And.left (by with_reducible assumption)) | exact Nat.ne_of_gt (And.left (And.right (by with_reducible assumption))) | exact Nat.ne_of_gt (And.left (And.right (And.right (by with_reducible assumption)))) | exact Nat.ne_of_gt (And.left (And.right (And.right (And.right (by with_reducible assumption))))) | exact Nat.ne_of_gt (And.left (And.right (And.right (And.right (And.right (by with_reducible assumption)))))) | exact Nat.ne_of_gt (And.left (And.right (And.right (And.right (And.right (And.right (by with_reducible assumption))))))) | exact Nat.ne_of_gt (And.left (And.right (And.right (And.right (And.right (And.right (And.right (by with_reducible assumption)))))))) | exact Nat.ne_of_gt (And.left (And.right (And.right (And.right (And.right (And.right (And.right (And.right (by with_reducible assumption))))))))) | exact Nat.ne_of_gt (And.left (And.right (And.right (And.right (And.right (And.right (And.right (And.right (And.right (by with_reducible assumption)))))))))) | (refine neN ?_; omega)) (by first | exact Nat.ne_of_gt (And.left (by with_reducible assumption)) | exact Nat.ne_of_gt (And.left (And.right (by with_reducible assumption))) | exact Nat.ne_of_gt (And.left (And.right (And.right (by with_reducible assumption)))) | exact Nat.ne_of_gt (And.left (And.right (And.right (And.right (by with_reducible assumption))))) | exact Nat.ne_of_gt (And.left (And.right (And.right (And.right (And.right (by with_reducible assumption)))))) | exact Nat.ne_of_gt (And.left (And.right (And.right (And.right (And.right (And.right (by with_reducible assumption))))))) | exact Nat.ne_of_gt (And.left (And.right (And.right (And.right (And.right (And.right (And.right (by with_reducible assumption)))))))) | exact Nat.ne_of_gt (And.left (And.right (And.right (And.right (And.right (And.right (And.right (And.right (by with_reducible assumption))))))))) | exact Nat.ne_of_gt (And.left (And.right (And.right (And.right (And.right (And.right (And.right (And.right (And.right (by with_reducible assumption)))))))))) | (refine neN ?_; omega)) (by first | exact Nat.ne_of_gt (And.left (by with_reducible assumption)) | exact Nat.ne_of_gt (And.left (And.right (by with_reducible assumption))) | exact Nat.ne_of_gt (And.left (And.right (And.right (by with_reducible assumption)))) | exact Nat.ne_of_gt (And.left (And.right (And.right (And.right (by with_reducible assumption))))) | exact Nat.ne_of_gt (And.left (And.right (And.right (And.right (And.right (by with_reducible assumption)))))) | exact Nat.ne_of_gt (And.left (And.right (And.right (And.right (And.right (And.right (by with_reducible assumption))))))) | exact Nat.ne_of_gt (And.left (And.right (And.right (And.right (And.right (And.right (And.right (by with_reducible assumption)))))))) | exact Nat.ne_of_gt (And.left (And.right (And.right (And.right (And.right (And.right (And.right (And.right (by with_reducible assumption))))))))) | exact Nat.ne_of_gt (And.left (And.right (And.right (And.right (And.right (And.right (And.right (And.right (And.right (by with_reducible assumption)))))))))) | (refine neN ?_; omega)) (by first | exact Nat.ne_of_gt (And.left (by with_reducible assumption)) | exact Nat.ne_of_gt (And.left (And.right (by with_reducible assumption))) | exact Nat.ne_of_gt (And.left (And.right (And.right (by with_reducible assumption)))) | exact Nat.ne_of_gt (And.left (And.right (And.right (And.right (by with_reducible assumption))))) | exact Nat.ne_of_gt (And.left (And.right (And.right (And.right (And.right (by with_reducible assumption)))))) | exact Nat.ne_of_gt (And.left (And.right (And.right (And.right (And.right (And.right (by with_reducible assumption))))))) | exact Nat.ne_of_gt (And.left (And.right (And.right (And.right (And.right (And.right (And.right (by with_reducible assumption)))))))) | exact Nat.ne_of_gt (And.left (And.right (And.right (And.right (And.right (And.right (And.right (And.right (by with_reducible assumption))))))))) | exact Nat.ne_of_gt (And.left (And.right (And.right (And.right (And.right (And.right (And.right (And.right (And.right (by with_reducible assumption)))))))))) | (refine neN ?_; omega)) (by assumption) (row2_sg (by assumption) (by assumption) (by assumption)) numV_tup
  · refine unhold ?_
    refine sgcutK (by assumption) (by assumption) ?_ ?_
    · k_steps
      · exact ⟨isSg_yes (by assumption), _, rfl⟩
      · exact ⟨isSg_no (by assumption), _, rfl⟩
    intro tc tkc
    dsimp only
    k_steps
    rename Fr h₀ L _ _ => F2
    rename News h₀ L _ _ => N2
    exact ret _ _ _ _ _ _ _ _ _ _ _ _ _ _ _ _ _ _ _ _ _ F2 (news_of N2 (by ((repeat (refine List.forall_mem_cons.mpr ⟨(by repeat (first | exact List.Mem.head _ | refine List.Mem.tail _ ?_)), ?_⟩)); (intro p hp; repeat (first | exact hp | refine List.Mem.tail _ ?_))))) (by first | exact Nat.ne_of_gt (And.left (by with_reducible assumption)) | exact Nat.ne_of_gt (And.left (And.right (by with_reducible assumption))) | exact Nat.ne_of_gt (And.left (And.right (And.right (by with_reducible assumption)))) | exact Nat.ne_of_gt (And.left (And.right (And.right (And.right (by with_reducible assumption))))) | exact Nat.ne_of_gt (And.left (And.right (And.right (And.right (And.right (by with_reducible assumption)))))) | exact Nat.ne_of_gt (And.left (And.right (And.right (And.right (And.right (And.right (by with_reducible assumption))))))) | exact Nat.ne_of_gt (And.left (And.right (And.right (And.right (And.right (And.right (And.right (by with_reducible assumption)))))))) | exact Nat.ne_of_gt (And.left (And.right (And.right (And.right (And.right (And.right (And.right (And.right (by with_reducible assumption))))))))) | exact Nat.ne_of_gt (And.left (And.right (And.right (And.right (And.right (And.right (And.right (And.right (And.right (by with_reducible assumption)))))))))) | (refine neN ?_; omega)) (by first | exact Nat.ne_of_gt (And.left (by with_reducible assumption)) | exact Nat.ne_of_gt (And.left (And.right (by with_reducible assumption))) | exact Nat.ne_of_gt (And.left (And.right (And.right (by with_reducible assumption)))) | exact Nat.ne_of_gt (And.left (And.right (And.right (And.right (by with_reducible assumption))))) | exact Nat.ne_of_gt (And.left (And.right (And.right (And.right (And.right (by with_reducible assumption)))))) | exact Nat.ne_of_gt (And.left (And.right (And.right (And.right (And.right (And.right (by with_reducible assumption))))))) | exact Nat.ne_of_gt (And.left (And.right (And.right (And.right (And.right (And.right (And.right (by with_reducible assumption)))))))) | exact Nat.ne_of_gt (And.left (And.right (And.right (And.right (And.right (And.right (And.right (And.right (by with_reducible assumption))))))))) | exact Nat.ne_of_gt (And.left (And.right (And.right (And.right (And.right (And.right (And.right (And.right (And.right (by with_reducible assumption)))))))))) | (refine neN ?_; omega)) (by first | exact Nat.ne_of_gt (And.left (by with_reducible assumption)) | exact Nat.ne_of_gt (And.left (And.right (by with_reducible assumption))) | exact Nat.ne_of_gt (And.left (And.right (And.right (by with_reducible assumption)))) | exact Nat.ne_of_gt (And.left (And.right (And.right (And.right (by with_reducible assumption))))) | exact Nat.ne_of_gt (And.left (And.right (And.right (And.right (And.right (by with_reducible assumption)))))) | exact Nat.ne_of_gt (And.left (And.right (And.right (And.right (And.right (And.right (by with_reducible assumption))))))) | exact Nat.ne_of_gt (And.left (And.right (And.right (And.right (And.right (And.right (And.right (by with_reducible assumption)))))))) | exact Nat.ne_of_gt (And.left (And.right (And.right (And.right (And.right (And.right (And.right (And.right (by with_reducible assumption))))))))) | exact Nat.ne_of_gt (And.left (And.right (And.right (And.right (And.right (And.right (And.right (And.right (And.right (by with_reducible assumption)))))))))) | (refine neN ?_; omega)) (by first | exact Nat.ne_of_gt (And.left (by with_reducible assumption)) | exact Nat.ne_of_gt (And.left (And.right (by with_reducible assumption))) | exact Nat.ne_of_gt (And.left (And.right (And.right (by with_reducible assumption)))) | exact Nat.ne_of_gt (And.left (And.right (And.right (And.right (by with_reducible assumption))))) | exact Nat.ne_of_gt (And.left (And.right (And.right (And.right (And.right (by with_reducible assumption)))))) | exact Nat.ne_of_gt (And.left (And.right (And.right (And.right (And.right (And.right (by with_reducible assumption))))))) | exact Nat.ne_of_gt (And.left (And.right (And.right (And.right (And.right (And.right (And.right (by with_reducible assumption)))))))) | exact Nat.ne_of_gt (And.left (And.right (And.right (And.right (And.right (And.right (And.right (And.right (by with_reducible assumption))))))))) | exact Nat.ne_of_gt (And.left (And.right (And.right (And.right (And.right (And.right (And.right (And.right (And.right (by with_reducible assumption)))))))))) | (refine neN ?_; omega)) (by assumption) (row3_sg (row3_seven (by assumption) (by assumption))) numV_tup
  · refine unhold ?_
    refine sgcutK (by assumption) (by assumption) ?_ ?_
    · k_steps
      · exact ⟨isSg_yes (by assumption), _, rfl⟩
      · exact ⟨isSg_no (by assumption), _, rfl⟩
    intro tc tkc
    dsimp only
    k_steps
    rename Fr h₀ L _ _ => F2
    rename News h₀ L _ _ => N2
    exact ret _ _ _ _ _ _ _ _ _ _ _ _ _ _ _ _ _ _ _ _ _ F2 (news_of N2 (by ((repeat (refine List.forall_mem_cons.mpr ⟨(by repeat (first | exact List.Mem.head _ | refine List.Mem.tail _ ?_)), ?_⟩)); (intro p hp; repeat (first | exact hp | refine List.Mem.tail _ ?_))))) (by first | exact Nat.ne_of_gt (And.left (by with_reducible assumption)) | exact Nat.ne_of_gt (And.left (And.right (by with_reducible assumption))) | exact Nat.ne_of_gt (And.left (And.right (And.right (by with_reducible assumption)))) | exact Nat.ne_of_gt (And.left (And.right (And.right (And.right (by with_reducible assumption))))) | exact Nat.ne_of_gt (And.left (And.right (And.right (And.right (And.right (by with_reducible assumption)))))) | exact Nat.ne_of_gt (And.left (And.right (And.right (And.right (And.right (And.right (by with_reducible assumption))))))) | exact Nat.ne_of_gt (And.left (And.right (And.right (And.right (And.right (And.right (And.right (by with_reducible assumption)))))))) | exact Nat.ne_of_gt (And.left (And.right (And.right (And.right (And.right (And.right (And.right (And.right (by with_reducible assumption))))))))) | exact Nat.ne_of_gt (And.left (And.right (And.right (And.right (And.right (And.right (And.right (And.right (And.right (by with_reducible assumption)))))))))) | (refine neN ?_; omega)) (by first | exact Nat.ne_of_gt (And.left (by with_reducible assumption)) | exact Nat.ne_of_gt (And.left (And.right (by with_reducible assumption))) | exact Nat.ne_of_gt (And.left (And.right (And.right (by with_reducible assumption)))) | exact Nat.ne_of_gt (And.left (And.right (And.right (And.right (by with_reducible assumption))))) | exact Nat.ne_of_gt (And.left (And.right (And.right (And.right (And.right (by with_reducible assumption)))))) | exact Nat.ne_of_gt (And.left (And.right (And.right (And.right (And.right (And.right (by with_reducible assumption))))))) | exact Nat.ne_of_gt (And.left (And.right (And.right (And.right (And.right (And.right (And.right (by with_reducible assumption)))))))) | exact Nat.ne_of_gt (And.left (And.right (And.right (And.right (And.right (And.right (And.right (And.right (by with_reducible assumption))))))))) | exact Nat.ne_of_gt (And.left (And.right (And.right (And.right (And.right (And.right (And.right (And.right (And.right (by with_reducible assumption)))))))))) | (refine neN ?_; omega)) (by first | exact Nat.ne_of_gt (And.left (by with_reducible assumption)) | exact Nat.ne_of_gt (And.left (And.right (by with_reducible assumption))) | exact Nat.ne_of_gt (And.left (And.right (And.right (by with_reducible assumption)))) | exact Nat.ne_of_gt (And.left (And.right (And.right (And.right (by with_reducible assumption))))) | exact Nat.ne_of_gt (And.left (And.right (And.right (And.right (And.right (by with_reducible assumption)))))) | exact Nat.ne_of_gt (And.left (And.right (And.right (And.right (And.right (And.right (by with_reducible assumption))))))) | exact Nat.ne_of_gt (And.left (And.right (And.right (And.right (And.right (And.right (And.right (by with_reducible assumption)))))))) | exact Nat.ne_of_gt (And.left (And.right (And.right (And.right (And.right (And.right (And.right (And.right (by with_reducible assumption))))))))) | exact Nat.ne_of_gt (And.left (And.right (And.right (And.right (And.right (And.right (And.right (And.right (And.right (by with_reducible assumption)))))))))) | (refine neN ?_; omega)) (by first | exact Nat.ne_of_gt (And.left (by with_reducible assumption)) | exact Nat.ne_of_gt (And.left (And.right (by with_reducible assumption))) | exact Nat.ne_of_gt (And.left (And.right (And.right (by with_reducible assumption)))) | exact Nat.ne_of_gt (And.left (And.right (And.right (And.right (by with_reducible assumption))))) | exact Nat.ne_of_gt (And.left (And.right (And.right (And.right (And.right (by with_reducible assumption)))))) | exact Nat.ne_of_gt (And.left (And.right (And.right (And.right (And.right (And.right (by with_reducible assumption))))))) | exact Nat.ne_of_gt (And.left (And.right (And.right (And.right (And.right (And.right (And.right (by with_reducible assumption)))))))) | exact Nat.ne_of_gt (And.left (And.right (And.right (And.right (And.right (And.right (And.right (And.right (by with_reducible assumption))))))))) | exact Nat.ne_of_gt (And.left (And.right (And.right (And.right (And.right (And.right (And.right (And.right (And.right (by with_reducible assumption)))))))))) | (refine neN ?_; omega)) (by assumption) (row3_sg (row3_num (by assumption) (by assumption) (by assumption) (by assumption))) numV_tup
end


def sgnS (less isn : Bool) : Str := if less = true ∧ isn = false then Str.ofString "-" else Str.ofString ""
def bodyS (less isn : Bool) (above beneath : Str) (ahead : Nat) : Str :=
  if beneath = Str.ofString "" then sgnS less isn ++ repF (Str.ofString "0") ahead ++ above
  else sgnS less isn ++ repF (Str.ofString "0") ahead ++ above ++ Str.ofString "/" ++ repF (Str.ofString "0") ahead ++ beneath
def wordS (less isn : Bool) (above beneath : Str) (ahead more : Nat) : Str := repF (Str.ofString " ") more ++ bodyS less isn above beneath ahead ++ repF (Str.ofString " ") (more / 2)
theorem fdiv_two {d : Int} : d.fdiv 2 = d / 2 := Int.fdiv_eq_ediv_of_nonneg _ (by decide)
theorem two_lo {d : Int} (h : 0 ≤ d) : 0 ≤ d.fdiv 2 := Int.fdiv_nonneg h (by decide)
theorem two_nat {d : Int} (h : 0 ≤ d) : (d.fdiv 2).toNat = d.toNat / 2 := by
  obtain ⟨k, rfl⟩ := Int.eq_ofNat_of_zero_le h
  rw [fdiv_two]
  rfl
theorem two_ten {d : Int} (h : d < 10) : d.fdiv 2 < 10 := by rw [fdiv_two]; exact Int.ediv_lt_of_lt_mul (by decide) (Int.lt_trans h (by decide))
theorem mul_ten {prog : Program} {w : World} {A : Around} {E : Value → Shared → Prop} {s : Shared} {x : Str} {t u : Tok} {n : Int} {Q : Value → Shared → Prop} (hx : x.length ≤ 1) (h0 : 0 ≤ n) (h1 : n < 10)
    (h : ∀ t' k', (repF x n.toNat).length ≤ 10 → Q (.str (repF x n.toNat) t') { s with toks := k' }) : wpAny (model prog w) A (binaryOp .Mult (.str x t) (.int n u)) Q E s :=
  mul_any 1 hx h0 (Int.le_trans (Int.le_of_lt h1) (by decide)) (by decide) fun t' k' hl => h t' k' (Nat.le_trans hl (by rw [Nat.one_mul]; exact Int.toNat_le.mpr (Int.le_of_lt h1)))
theorem mul_half {prog : Program} {w : World} {A : Around} {E : Value → Shared → Prop} {s : Shared} {x : Str} {t u : Tok} {n : Int} {Q : Value → Shared → Prop} (hx : x.length ≤ 1) (h0 : 0 ≤ n) (h1 : n < 10)
    (h : ∀ t' k', (repF x (n.fdiv 2).toNat).length ≤ 10 → Q (.str (repF x (n.fdiv 2).toNat) t') { s with toks := k' }) : wpAny (model prog w) A (binaryOp .Mult (.str x t) (.int (n.fdiv 2) u)) Q E s :=
  mul_ten hx (two_lo h0) (two_ten h1) h
theorem wordS_a {less isn : Bool} {above beneath : Str} {ahead more : Nat} {S : Str} (h : sgnS less isn = S) (hb : (beneath != Str.ofString "") = false) :
    wordS less isn above beneath ahead more = repF (Str.ofString " ") more ++ (S ++ repF (Str.ofString "0") ahead ++ above) ++ repF (Str.ofString " ") (more / 2) := by
  unfold wordS bodyS
  rw [if_pos (by simpa using hb), h]
theorem wordS_b {less isn : Bool} {above beneath : Str} {ahead more : Nat} {S : Str} (h : sgnS less isn = S) (hb : (beneath != Str.ofString "") = true) :
    wordS less isn above beneath ahead more = repF (Str.ofString " ") more ++ (S ++ repF (Str.ofString "0") ahead ++ above ++ Str.ofString "/" ++ repF (Str.ofString "0") ahead ++ beneath) ++ repF (Str.ofString " ") (more / 2) := by
  unfold wordS bodyS
  rw [if_neg (by simpa using hb), h]
theorem sgn_yes {less isn : Bool} (h : less = true) (h' : isn = false) : sgnS less isn = Str.ofString "-" := by unfold sgnS; rw [if_pos ⟨h, h'⟩]
theorem sgn_no1 {less isn : Bool} (h : less = false) : sgnS less isn = Str.ofString "" := by unfold sgnS; rw [if_neg (by rw [h]; simp)]
theorem sgn_no2 {less isn : Bool} (h : isn = true) : sgnS less isn = Str.ofString "" := by unfold sgnS; rw [if_neg (by rw [h]; simp)]
theorem sgn_len (less isn : Bool) : (sgnS less isn).length ≤ 1 := by
  cases less <;> cases isn <;> decide +kernel

section
local macro_rules | `(tactic| walk_at "eval IfExp") => `(tactic| (k_here; goal_lacks CutEnd; refine hold ?_))

local macro_rules | `(tactic| walk_at "binaryOp Mult str int") => `(tactic| (k_here; (with_reducible first | apply mul_half | apply mul_ten); (iterate 3 walk_at "zz e"); intros))
theorem word_c {pt : Addr} {less isn : Bool} {above beneath : Str} {ahead more : Int} {ta tb th tm : Tok} (B : Below A₀ base outer h₀) (F : Fr h₀ L s.heap m) (X : (hd.heap_39 w.params).In h₀) (N : News h₀ L s.heap ((pt, tupO [.bool less, .str above ta, .str beneath tb]) :: news)) (T : Top hd.view_39 lo mean mg mb h₀) (hk : cs.kind = .function) (hd' : dp + 12 < recursionLimit) (hu : un + 80 < cLine)
  (hla : above.length ≤ 4501) (hlb : beneath.length ≤ 4501) (ha0 : 0 ≤ ahead) (ha1 : ahead < 10) (hm0 : 0 ≤ more) (hm1 : more < 10)
  (ret : ∀ t h' tk', Fr h₀ L h' m → News h₀ L h' ((pt, tupO [.bool less, .str above ta, .str beneath tb]) :: news) → Q (.str (wordS less isn above beneath ahead.toNat more.toNat) t) { s with heap := h', toks := tk' })
  : wpAny (model PySem.Challenge.rw_pq1295_01.row.prog w) (ktrTop dp un gd cn cs L a ccd cl outer) (call (.ref 139) [.ref pt, .bool isn, .int ahead th, .int more tm]) Q E s := by
  revert X
  k_fill
  intro X
  refine wpAny_call ?_
  k_dflt (refine' code_def (binds := [(Str.ofString "parts", .ref pt), (Str.ofString "is_nought", .bool isn), (Str.ofString "ahead", .int ahead th), (Str.ofString "more", .int more tm)]) ?k1 ?k2 ?k3 ?k4 ?k5 ?kA ?kF ?kK ?k6 ?k7 ?k8 ?k9 ?kB ?_ ?c2 ?c3 ?c4 ?c5; (case kA => exact rfl); (case kF => exact rfl); (case kK => assumption); (case k1 => k_asm); (case k2 => k_asm); (case k3 => k_asm); (case k4 => k_asm); (case k5 => k_asm); (case k6 => k_is); (case k7 => k_is); (case k8 => ktr_room); (case k9 => exact BindsTo.of_eq rfl); (case c5 => decide); (case kB => exact locs rfl); (case c2 => exact rfl); (case c3 => exact rfl); (case c4 => exact rfl); k_whole; intro g' L' h' FG' F' N' B' X' T'; (try dsimp only); (try k_lift B'); (try k_fold))

  have hsl : (Str.ofString "/").length = 1 := by decide
  have hs0 : (Str.ofString "").length = 0 := by decide
  have hs1 : (Str.ofString "-").length = 1 := by decide
  have hsg := sgn_len less isn
  k_steps
  refine unhold ?_
  refine ifcut (fun y => ∃ t, y = .str (sgnS less isn) t) ?_ ?_
  · k_steps
    all_goals first | exact ⟨⟨_, by rw [sgn_yes (by assumption) (by assumption)]⟩, _, rfl⟩ | exact ⟨⟨_, by rw [sgn_no1 (by assumption)]⟩, _, rfl⟩ | exact ⟨⟨_, by rw [sgn_no2 (by assumption)]⟩, _, rfl⟩
  rintro _ tkc ⟨tc, rfl⟩
  dsimp only
  k_steps
  all_goals
    rw [two_nat hm0]
    rename Fr h₀ L _ _ => F2
    rename News h₀ L _ _ => N2
    first
      | rw [wordS_a rfl (by assumption)] at ret
      | rw [wordS_b rfl (by assumption)] at ret
    exact ret _ _ _ F2 N2
end


def PartOK (p : List Nat) : Prop := 47 ∉ p ∧ (∃ a r, p = a :: r ∧ a ≠ 32 ∧ a ≠ 45) ∧ (∃ s b, p = s ++ [b] ∧ b ≠ 32)
theorem IsD.ok {p : List Nat} (h : IsD p) : PartOK p := by
  obtain ⟨⟨a, r, e, h1, h2⟩, s, b, e', h3, h4⟩ := isD_ends h
  exact ⟨h.free, ⟨a, r, e, by omega, by omega⟩, s, b, e', by omega⟩
theorem cat47_last : ∀ (ps : List (List Nat)), ps ≠ [] → (∀ p ∈ ps, PartOK p) → ∃ s b, cat47 ps = s ++ [b] ∧ b ≠ 32
  | [], h, _ => absurd rfl h
  | [a], _, h => (h a (.head _)).2.2
  | a :: c :: r, _, h => by
    obtain ⟨s, b, e, hb⟩ := cat47_last (c :: r) (by simp) (fun p hp => h p (.tail _ hp))
    exact ⟨a ++ 47 :: s, b, by show a ++ 47 :: cat47 (c :: r) = _; rw [e]; simp, hb⟩
theorem cat47_first : ∀ (ps : List (List Nat)), ps ≠ [] → (∀ p ∈ ps, PartOK p) → ∃ a r, cat47 ps = a :: r ∧ a ≠ 32 ∧ a ≠ 45
  | [], h, _ => absurd rfl h
  | [a], _, h => (h a (.head _)).2.1
  | a :: c :: r, _, h => by
    obtain ⟨b, s, e, hb⟩ := (h a (.head _)).2.1
    exact ⟨b, s ++ 47 :: cat47 (c :: r), by show a ++ 47 :: cat47 (c :: r) = _; rw [e]; rfl, hb⟩
def sg (neg : Bool) : List Nat := if neg = true then [45] else []
theorem num_gen (x : Str) {i j : Nat} {neg : Bool} {ps : List (List Nat)} (hx : x.cps.toList = List.replicate i 32 ++ (sg neg ++ cat47 ps) ++ List.replicate j 32) (hne : ps ≠ []) (hok : ∀ p ∈ ps, PartOK p) : numR x = numOf neg (ps.map wholeL) := by
  obtain ⟨s, b, e, hb⟩ := cat47_last ps hne hok
  obtain ⟨a, r, e', ha, ha'⟩ := cat47_first ps hne hok
  cases neg with
  | true => exact num_less x (s := 45 :: s) hx (by rw [show sg true ++ cat47 ps = 45 :: cat47 ps from rfl] at *; rw [e]; rfl) hb hne (fun p hp => (hok p hp).1) rfl
  | false => exact num_more x hx (show sg false ++ cat47 ps = a :: r from e') (show sg false ++ cat47 ps = s ++ [b] from e) ha ha' hb hne (fun p hp => (hok p hp).1) rfl
def dg (k : Nat) (i : Int) : List Nat := List.replicate k 48 ++ digL i.natAbs
def prts (k : Nat) (p q : Int) : List (List Nat) := if q = 1 then [dg k p] else [dg k p, dg k q]
def core (neg : Bool) (k : Nat) (p q : Int) : List Nat := sg neg ++ cat47 (prts k p q)
theorem dg_isD (k : Nat) (i : Int) : IsD (dg k i) := isD_zero (digL_isD _)
theorem prts_isD (k : Nat) (p q : Int) : ∀ x ∈ prts k p q, IsD x := by
  unfold prts
  intro x hx
  split at hx
  · rw [List.mem_singleton.mp hx]; exact dg_isD k p
  · rcases List.mem_cons.mp hx with rfl | hx
    · exact dg_isD k p
    · rw [List.mem_singleton.mp hx]; exact dg_isD k q
theorem prts_ne (k : Nat) (p q : Int) : prts k p q ≠ [] := by unfold prts; split <;> simp
theorem rep_list (c : Nat) (k : Nat) : (repF ⟨#[c]⟩ k).cps.toList = List.replicate k c := by
  show ((List.replicate k [c]).flatten) = _
  induction k with
  | zero => rfl
  | succ k ih => rw [List.replicate_succ, List.flatten_cons, ih, List.replicate_succ]; rfl
theorem digS_ne (n : Nat) : digS n ≠ Str.ofString "" := by
  intro h
  have := congrArg (fun x : Str => x.cps.toList) h
  have e : (Str.ofString "").cps.toList = [] := by decide +kernel
  rw [e] at this
  exact (digL_isD n).1 this
theorem sgnS_list (less isn : Bool) : (sgnS less isn).cps.toList = sg (less && !isn) := by
  cases less <;> cases isn <;> decide +kernel
theorem wordS_list {less isn : Bool} {above beneath : Str} {p q : Int} (h : RowOK less above beneath p q) (k j : Nat) : (wordS less isn above beneath k j).cps.toList = List.replicate j 32 ++ core (less && !isn) k p q ++ List.replicate (j / 2) 32 := by
  obtain ⟨_, _, ha, hq, hb, _, _⟩ := h
  have e1 : Str.ofString " " = (⟨#[32]⟩ : Str) := by decide +kernel
  have e2 : Str.ofString "0" = (⟨#[48]⟩ : Str) := by decide +kernel
  have e3 : (Str.ofString "/").cps.toList = [47] := by decide +kernel
  unfold wordS bodyS core prts
  by_cases h1 : q = 1
  · rw [if_pos h1] at hb
    rw [if_pos hb, if_pos h1]
    simp only [Str.cps_append, Array.toList_append, sgnS_list, e1, e2, rep_list, ha, digS_list]
    simp only [cat47, dg, List.append_assoc]
  · rw [if_neg h1] at hb
    rw [if_neg (by rw [hb]; exact digS_ne _), if_neg h1]
    simp only [Str.cps_append, Array.toList_append, sgnS_list, e1, e2, e3, rep_list, ha, hb, digS_list]
    simp only [cat47, dg, List.append_assoc, List.cons_append, List.nil_append]
theorem core_num {x : Str} {i j k : Nat} {neg : Bool} {p q : Int} (hx : x.cps.toList = List.replicate i 32 ++ core neg k p q ++ List.replicate j 32) (hn : neg = true → p ≤ 0) (hp : neg = false → 0 ≤ p) (hq : 1 ≤ q) : numR x = some (p, q) := by
  rw [num_gen x hx (prts_ne k p q) (fun x hx => (prts_isD k p q x hx).ok)]
  have hw : ∀ i : Int, wholeL (dg k i) = some (i.natAbs : Int) := fun i => whole_dig k _
  have hs : (if neg = true then 0 - (p.natAbs : Int) else (p.natAbs : Int)) = p := by
    cases neg with
    | true => have := hn rfl; rw [if_pos rfl]; omega
    | false => have := hp rfl; rw [if_neg (by decide)]; omega
  unfold prts
  by_cases h1 : q = 1
  · rw [if_pos h1]
    show numOf neg [wholeL (dg k p)] = _
    rw [hw]
    show some ((if neg = true then 0 - (p.natAbs : Int) else (p.natAbs : Int)), (1 : Int)) = _
    rw [hs, h1]
  · rw [if_neg h1]
    show numOf neg [wholeL (dg k p), wholeL (dg k q)] = _
    rw [hw, hw]
    show (if (q.natAbs : Int) = 0 then none else some ((if neg = true then 0 - (p.natAbs : Int) else (p.natAbs : Int)), (q.natAbs : Int))) = _
    rw [if_neg (by omega), hs, show (q.natAbs : Int) = q by omega]
theorem cat47_more : ∀ (ps : List (List Nat)) (t : List Nat), ps ≠ [] → cat47 (ps ++ [t]) = cat47 ps ++ 47 :: t
  | [], _, h => absurd rfl h
  | [a], t, _ => rfl
  | a :: b :: r, t, _ => by
    have ih := cat47_more (b :: r) t (by simp)
    show a ++ 47 :: cat47 (b :: r ++ [t]) = (a ++ 47 :: cat47 (b :: r)) ++ 47 :: t
    rw [ih]; simp
theorem one_isD {c : Nat} (h0 : 48 ≤ c) (h1 : c ≤ 57) : IsD [c] := ⟨by simp, fun d hd => by rw [List.mem_singleton.mp hd]; exact ⟨h0, h1⟩⟩
theorem core_over {x : Str} {neg : Bool} {p q : Int} (hx : x.cps.toList = core neg 0 p q ++ [47, 48]) : numR x = none := by
  have hok : ∀ x ∈ prts 0 p q ++ [[48]], PartOK x := by
    intro x hx
    rcases List.mem_append.mp hx with hx | hx
    · exact (prts_isD 0 p q x hx).ok
    · rw [List.mem_singleton.mp hx]; exact (one_isD (by decide) (by decide)).ok
  rw [num_gen x (i := 0) (j := 0) (neg := neg) (ps := prts 0 p q ++ [[48]]) (by rw [hx, cat47_more _ _ (prts_ne 0 p q)]; simp [core]) (by simp) hok]
  have h0 : wholeL [48] = some 0 := by decide +kernel
  have hw : ∀ i : Int, wholeL (dg 0 i) = some (i.natAbs : Int) := fun i => whole_dig 0 _
  unfold prts
  split
  · show numOf neg [wholeL (dg 0 p), wholeL [48]] = none
    rw [hw, h0]; rfl
  · show numOf neg [wholeL (dg 0 p), wholeL (dg 0 q), wholeL [48]] = none
    exact numOf_big (by show 2 < 3; decide)
theorem core_two {x : Str} {neg : Bool} {p q : Int} (hx : x.cps.toList = core neg 0 p q ++ [47, 50, 47, 51]) : numR x = none := by
  have hok : ∀ x ∈ (prts 0 p q ++ [[50]]) ++ [[51]], PartOK x := by
    intro x hx
    rcases List.mem_append.mp hx with hx | hx
    · rcases List.mem_append.mp hx with hx | hx
      · exact (prts_isD 0 p q x hx).ok
      · rw [List.mem_singleton.mp hx]; exact (one_isD (by decide) (by decide)).ok
    · rw [List.mem_singleton.mp hx]; exact (one_isD (by decide) (by decide)).ok
  rw [num_gen x (i := 0) (j := 0) (neg := neg) (ps := (prts 0 p q ++ [[50]]) ++ [[51]]) (by rw [hx, cat47_more _ _ (by simp), cat47_more _ _ (prts_ne 0 p q)]; simp [core]) (by simp) hok]
  refine numOf_big ?_
  rw [List.length_map, List.length_append, List.length_append]
  have : 0 < (prts 0 p q).length := List.length_pos_iff.mpr (prts_ne 0 p q)
  simp only [List.length_singleton]; omega
theorem dot_ok {l : List Nat} (h : IsD l) : PartOK (l ++ [46]) ∧ wholeL (l ++ [46]) = none := by
  obtain ⟨⟨a, r, e, h1, h2⟩, _⟩ := isD_ends h
  refine ⟨⟨?_, ⟨a, r ++ [46], by rw [e]; rfl, by omega, by omega⟩, l, 46, rfl, by decide⟩, whole_bad (c := 46) (by simp) (by decide)⟩
  intro k
  rcases List.mem_append.mp k with k | k
  · exact h.free k
  · exact absurd (List.mem_singleton.mp k) (by decide)
theorem core_dot {x : Str} {neg : Bool} {p q : Int} (hx : x.cps.toList = core neg 0 p q ++ [46]) : numR x = none := by
  by_cases h1 : q = 1
  · have e : prts 0 p q = [dg 0 p] := by unfold prts; rw [if_pos h1]
    have hd := dot_ok (dg_isD 0 p)
    rw [num_gen x (i := 0) (j := 0) (neg := neg) (ps := [dg 0 p ++ [46]]) (by rw [hx, core, e]; simp [cat47]) (by simp) (fun y hy => by rw [List.mem_singleton.mp hy]; exact hd.1)]
    exact numOf_bad (by rw [List.map_cons, hd.2]; exact .head _)
  · have e : prts 0 p q = [dg 0 p, dg 0 q] := by unfold prts; rw [if_neg h1]
    have hd := dot_ok (dg_isD 0 q)
    rw [num_gen x (i := 0) (j := 0) (neg := neg) (ps := [dg 0 p, dg 0 q ++ [46]]) (by rw [hx, core, e]; simp [cat47]) (by simp) (fun y hy => by
      rcases List.mem_cons.mp hy with rfl | hy
      · exact (dg_isD 0 p).ok
      · rw [List.mem_singleton.mp hy]; exact hd.1)]
    exact numOf_bad (by rw [List.map_cons, List.map_cons, hd.2]; exact .tail _ (.head _))
theorem plus_ok {l : List Nat} (h : IsD l) (neg : Bool) : PartOK (43 :: (sg neg ++ l)) ∧ wholeL (43 :: (sg neg ++ l)) = none := by
  obtain ⟨_, s, b, e, h1, h2⟩ := isD_ends h
  refine ⟨⟨?_, ⟨43, _, rfl, by decide, by decide⟩, 43 :: (sg neg ++ s), b, by rw [e]; simp, by omega⟩, whole_bad (c := 43) (by simp) (by decide)⟩
  intro k
  rcases List.mem_cons.mp k with k | k
  · exact absurd k (by decide)
  · rcases List.mem_append.mp k with k | k
    · cases neg with
      | true => exact absurd (List.mem_singleton.mp k) (by decide)
      | false => cases k
    · exact h.free k
theorem core_plus {x : Str} {neg : Bool} {p q : Int} (hx : x.cps.toList = 43 :: core neg 0 p q) : numR x = none := by
  have hd := plus_ok (dg_isD 0 p) neg
  by_cases h1 : q = 1
  · have e : prts 0 p q = [dg 0 p] := by unfold prts; rw [if_pos h1]
    rw [num_gen x (i := 0) (j := 0) (neg := false) (ps := [43 :: (sg neg ++ dg 0 p)]) (by rw [hx, core, e]; simp [cat47, sg]) (by simp) (fun y hy => by rw [List.mem_singleton.mp hy]; exact hd.1)]
    exact numOf_bad (by rw [List.map_cons, hd.2]; exact .head _)
  · have e : prts 0 p q = [dg 0 p, dg 0 q] := by unfold prts; rw [if_neg h1]
    rw [num_gen x (i := 0) (j := 0) (neg := false) (ps := [43 :: (sg neg ++ dg 0 p), dg 0 q]) (by rw [hx, core, e]; simp [cat47, sg]) (by simp) (fun y hy => by
      rcases List.mem_cons.mp hy with rfl | hy
      · exact hd.1
      · rw [List.mem_singleton.mp hy]; exact (dg_isD 0 q).ok)]
    exact numOf_bad (by rw [List.map_cons, hd.2]; exact .head _)
theorem word_list0 {less isn : Bool} {above beneath : Str} {p q : Int} (h : RowOK less above beneath p q) : (wordS less isn above beneath 0 0).cps.toList = core (less && !isn) 0 p q := by
  rw [wordS_list h]; simp
theorem word_num {less isn : Bool} {above beneath : Str} {p q : Int} (h : RowOK less above beneath p q) (hi : isn = true → p = 0) (k j : Nat) : numR (wordS less isn above beneath k j) = some (p, q) := by
  refine core_num (wordS_list h k j) ?_ ?_ h.2.2.2.1
  · intro e
    exact h.1 (by cases less <;> simp_all)
  · intro e
    cases less with
    | false => exact h.2.1 rfl
    | true => rw [hi (by cases isn <;> simp_all)]; exact Int.le_refl _
theorem word_over {less isn : Bool} {above beneath : Str} {p q : Int} (h : RowOK less above beneath p q) : numR (wordS less isn above beneath 0 0 ++ Str.ofString "/0") = none :=
  core_over (by rw [Str.cps_append, Array.toList_append, word_list0 h]; congr 1)
theorem word_plus {less isn : Bool} {above beneath : Str} {p q : Int} (h : RowOK less above beneath p q) : numR (Str.ofString "+" ++ wordS less isn above beneath 0 0) = none :=
  core_plus (by rw [Str.cps_append, Array.toList_append, word_list0 h]; rfl)
theorem word_two {less isn : Bool} {above beneath : Str} {p q : Int} (h : RowOK less above beneath p q) : numR (wordS less isn above beneath 0 0 ++ Str.ofString "/2/3") = none :=
  core_two (by rw [Str.cps_append, Array.toList_append, word_list0 h]; congr 1)
theorem word_dot {less isn : Bool} {above beneath : Str} {p q : Int} (h : RowOK less above beneath p q) : numR (wordS less isn above beneath 0 0 ++ Str.ofString ".") = none :=
  core_dot (by rw [Str.cps_append, Array.toList_append, word_list0 h]; congr 1)
theorem dg0 (i : Int) : dg 0 i = digL i.natAbs := rfl
theorem decS_list (i : Int) : (decS i).cps.toList = sg (decide (i < 0)) ++ digL i.natAbs := by
  have e3 : (Str.ofString "-").cps.toList = [45] := by decide +kernel
  unfold decS
  by_cases h : i < 0
  · rw [if_pos h, decide_eq_true h, Str.cps_append, Array.toList_append, e3, digS_list, nat_neg h]; rfl
  · rw [if_neg h, decide_eq_false h, digS_list, nat_pos (Int.not_lt.mp h)]; rfl
theorem ratS_list {p q : Int} (hq : 1 ≤ q) : (ratS p q).cps.toList = core (decide (p < 0)) 0 p q := by
  have e3 : (Str.ofString "/").cps.toList = [47] := by decide +kernel
  have e4 : (Str.ofString "").cps.toList = [] := by decide +kernel
  unfold ratS core prts
  rw [Str.cps_append, Array.toList_append, decS_list]
  by_cases h : q = 1
  · rw [if_pos h, if_pos h, e4]; simp [cat47, dg0]
  · rw [if_neg h, if_neg h, Str.cps_append, Array.toList_append, e3, decS_list, decide_eq_false (by omega : ¬ q < 0)]
    simp [cat47, dg0, sg]
theorem list_ext {x y : Str} (h : x.cps.toList = y.cps.toList) : x = y := Str.ext' (Array.toList_inj.mp h)
theorem neg_eq {less : Bool} {above beneath : Str} {p q : Int} (h : RowOK less above beneath p q) : (less && !(p == 0)) = decide (p < 0) := by
  obtain ⟨h1, h2, _⟩ := h
  cases less with
  | true =>
    have := h1 rfl
    by_cases h0 : p = 0
    · rw [h0]; rfl
    · have e : (p == 0) = false := by simpa using h0
      rw [e, decide_eq_true (by omega)]; rfl
  | false =>
    have := h2 rfl
    rw [decide_eq_false (by omega)]; rfl
theorem word_rat {less : Bool} {above beneath : Str} {p q : Int} (h : RowOK less above beneath p q) : ratS p q = wordS less (p == 0) above beneath 0 0 :=
  list_ext (by rw [ratS_list h.2.2.2.1, word_list0 h, neg_eq h])
theorem word_dec {less : Bool} {above beneath : Str} {p q : Int} (h : RowOK less above beneath p q) (hq : q = 1) : decS p = wordS less (p == 0) above beneath 0 0 := by
  rw [← word_rat h]
  unfold ratS
  rw [if_pos hq]
  apply list_ext
  rw [Str.cps_append, Array.toList_append]
  have e4 : (Str.ofString "").cps.toList = [] := by decide +kernel
  rw [e4, List.append_nil]

theorem row_k {nw : Obj → List (Addr × Obj)} {times sort : Int} {tm ts : Tok} (B : Below A₀ base outer h₀) (F : Fr h₀ L s.heap m) (X : (hd.heap_39 w.params).In h₀) (N : News h₀ L s.heap (news)) (T : Top hd.view_39 lo mean mg mb h₀) (hk : cs.kind = .function) (hd' : dp + 30 < recursionLimit) (hu : un + 180 < cLine)
  (U : ∀ o', Upd tp o o' news (nw o')) (hT : TapeO tp np o) (hN : NumsO nums) (hn : (np, nums) ∈ news) (ht0 : 0 ≤ times) (ht1 : times ≤ 1434) (hs0 : 0 ≤ sort) (hs1 : sort < 4)
  (ret : ∀ (r pt pr x : Addr) (Z : Obj) (v : Value) (b : Bool) (nm above beneath : Str) (less : Bool) (p q : Int) (tn ta tb t1 t2 : Tok) o' h' tk', Fr h₀ L h' m → News h₀ L h' ((r, tupO [v, .str nm tn, .ref pt, .ref pr]) :: (pt, tupO [.bool less, .str above ta, .str beneath tb]) :: (pr, tupO [.int p t1, .int q t2]) :: (x, Z) :: nw o') → @Ne Nat r tp → @Ne Nat pt tp → @Ne Nat pr tp → @Ne Nat x tp → TapeO tp np o' → RowOK less above beneath p q → NumV x Z v b p q → Q (.ref r) { s with heap := h', toks := tk' })
  : wpAny (model PySem.Challenge.rw_pq1295_01.row.prog w) (ktrTop dp un gd cn cs L a ccd cl outer) (call (.ref 127) [.ref tp, .int sort ts, .int times tm]) Q E s := by
  have hne : @Ne Nat tp np := by obtain ⟨_, _, _, _, _, _, _, _, h⟩ := hT; exact h
  obtain ⟨rest, N', h2, hR, hL⟩ := upd_lift N U hn hne
  refine row_h B F X N' T hk hd' hu h2 (Ne.symm hne) hT hN ht0 ht1 hs0 hs1 ?_
  intro r pt pr x Z v b nm above beneath less p q tn ta tb t1 t2 o' h' tk' F2 N2
  exact ret r pt pr x Z v b nm above beneath less p q tn ta tb t1 t2 o' h' tk' F2 (hR _ _ [_, _, _, _] N2)

theorem news_dup {h₀ : Heap} {L : Addr} {h : Heap} {l : List (Addr × Obj)} {x : Addr × Obj} (N : News h₀ L h l) (hm : x ∈ l) : News h₀ L h (x :: l) := fun p hp => by
  rcases List.mem_cons.mp hp with e | hp
  · rw [e]; exact N _ hm
  · exact N _ hp
theorem rowOK_small {less : Bool} {above beneath : Str} {p q : Int} (h : RowOK less above beneath p q) : smallI p ∧ smallI q := ⟨h.2.2.2.2.2.1, h.2.2.2.2.2.2⟩
theorem rowOK_len {less : Bool} {above beneath : Str} {p q : Int} (h : RowOK less above beneath p q) : above.length ≤ 4501 ∧ beneath.length ≤ 4501 := by
  obtain ⟨_, _, ha, _, hb, h1, h2⟩ := h
  unfold smallI at h1 h2
  refine ⟨by rw [ha, digS_len]; exact Nat.le_trans h1 (by decide), ?_⟩
  rw [hb]
  split
  · rw [show (Str.ofString "").length = 0 by decide +kernel]; exact Nat.zero_le _
  · rw [digS_len]; exact Nat.le_trans h2 (by decide)
theorem bd1 {x s a b c : Nat} (h1 : x ≤ 4501) (ha : a < 10) (hb : b < 10) (hc : c < 10) (hs : s < 2) : b + (s + a + x) + c ≤ 9100 := by omega
theorem bd2 {x y s a b c : Nat} (h1 : x ≤ 4501) (h2 : y ≤ 4501) (ha : a < 10) (hb : b < 10) (hc : c < 10) (hs : s < 2) : b + (s + a + x + 1 + a + y) + c ≤ 9100 := by omega
theorem wordS_len {less isn : Bool} {above beneath : Str} {a b : Nat} (h1 : above.length ≤ 4501) (h2 : beneath.length ≤ 4501) (ha : a < 10) (hb : b < 10) : (wordS less isn above beneath a b).length ≤ 9100 := by
  have e1 : (Str.ofString "").length = 0 := by decide +kernel
  have e2 : (Str.ofString "-").length = 1 := by decide +kernel
  have e3 : (Str.ofString "/").length = 1 := by decide +kernel
  have e4 : (Str.ofString " ").length = 1 := by decide +kernel
  have e5 : (Str.ofString "0").length = 1 := by decide +kernel
  unfold wordS bodyS sgnS
  have hc := Nat.lt_of_le_of_lt (Nat.div_le_self b 2) hb
  split <;> split <;> simp only [Str.length_append, repF_len, e1, e2, e3, e4, e5, Nat.mul_one] <;> first | exact bd1 h1 ha hb hc (by decide) | exact bd2 h1 h2 ha hb hc (by decide)
theorem vtR2 {p q : Int} {u1 u2 tn tv : Tok} {v : Addr} {nm above beneath : Str} {less : Bool} (B : Below A₀ base outer h₀) (F : Fr h₀ L s.heap m) (X : (hd.heap_39 w.params).In h₀) (N : News h₀ L s.heap (news)) (T : Top hd.view_39 lo mean mg mb h₀) (hk : cs.kind = .function) (hd' : dp + 20 < recursionLimit) (hu : un + 120 < cLine) (hv : (v, tupO [.int p u1, .int q u2]) ∈ news) (hrow : RowOK less above beneath p q) (hn : nm = Str.ofString "nv") (ret : ∀ (t : Tok) h' tk', Fr h₀ L h' m → News h₀ L h' news → Q (.str (wordS less (p == 0) above beneath 0 0) t) { s with heap := h', toks := tk' }) : wpAny (model PySem.Challenge.rw_pq1295_01.row.prog w) (ktrTop dp un gd cn cs L a ccd cl outer) (call (.ref 86) [.ref v, .str nm tn]) Q E s := by
  subst hn
  refine vt_pair B F X (news_dup N hv) T hk hd' hu (bd86_two _ _) (rowOK_small hrow).1 (rowOK_small hrow).2 ?_
  intro t h' tk' F2 N2
  rw [word_rat hrow]
  exact ret t h' tk' F2 (fun z hz => N2 z (.tail _ hz))
theorem vtR1 {p q : Int} {u1 u2 tn tv : Tok} {v : Addr} {nm above beneath : Str} {less : Bool} (B : Below A₀ base outer h₀) (F : Fr h₀ L s.heap m) (X : (hd.heap_39 w.params).In h₀) (N : News h₀ L s.heap (news)) (T : Top hd.view_39 lo mean mg mb h₀) (hk : cs.kind = .function) (hd' : dp + 20 < recursionLimit) (hu : un + 120 < cLine) (hv : (v, tupO [.int p u1, .int q u2]) ∈ news) (hrow : RowOK less above beneath p q) (ret : ∀ (t : Tok) h' tk', Fr h₀ L h' m → News h₀ L h' news → Q (.str (wordS less (p == 0) above beneath 0 0) t) { s with heap := h', toks := tk' }) : wpAny (model PySem.Challenge.rw_pq1295_01.row.prog w) (ktrTop dp un gd cn cs L a ccd cl outer) (call (.ref 86) [.ref v]) Q E s := by
  refine vt_pair B F X (news_dup N hv) T hk hd' hu (bd86_one _) (rowOK_small hrow).1 (rowOK_small hrow).2 ?_
  intro t h' tk' F2 N2
  rw [word_rat hrow]
  exact ret t h' tk' F2 (fun z hz => N2 z (.tail _ hz))
theorem vtN2 {p q : Int} {u1 u2 tn tv : Tok} {v : Addr} {nm above beneath : Str} {less : Bool} (B : Below A₀ base outer h₀) (F : Fr h₀ L s.heap m) (X : (hd.heap_39 w.params).In h₀) (N : News h₀ L s.heap (news)) (T : Top hd.view_39 lo mean mg mb h₀) (hk : cs.kind = .function) (hd' : dp + 20 < recursionLimit) (hu : un + 120 < cLine) (hv : (v, tupO [.int p u1, .int q u2]) ∈ news) (hne : nm ≠ Str.ofString "nv") (ret : ∀ h' tk', Fr h₀ L h' m → News h₀ L h' news → Q .none { s with heap := h', toks := tk' }) : wpAny (model PySem.Challenge.rw_pq1295_01.row.prog w) (ktrTop dp un gd cn cs L a ccd cl outer) (call (.ref 86) [.ref v, .str nm tn]) Q E s := by
  refine vt_pairn B F X (news_dup N hv) T hk hd' hu (bd86_two _ _) hne ?_
  intro h' tk' F2 N2
  exact ret h' tk' F2 (fun z hz => N2 z (.tail _ hz))
theorem vtI2 {p q : Int} {u1 u2 tn tv : Tok} {v : Addr} {nm above beneath : Str} {less : Bool} (B : Below A₀ base outer h₀) (F : Fr h₀ L s.heap m) (X : (hd.heap_39 w.params).In h₀) (N : News h₀ L s.heap (news)) (T : Top hd.view_39 lo mean mg mb h₀) (hk : cs.kind = .function) (hd' : dp + 20 < recursionLimit) (hu : un + 120 < cLine) (hrow : RowOK less above beneath p q) (hq : q = 1) (ret : ∀ (t : Tok) h' tk', Fr h₀ L h' m → News h₀ L h' news → Q (.str (wordS less (p == 0) above beneath 0 0) t) { s with heap := h', toks := tk' }) : wpAny (model PySem.Challenge.rw_pq1295_01.row.prog w) (ktrTop dp un gd cn cs L a ccd cl outer) (call (.ref 86) [.int p tv, .str nm tn]) Q E s := by
  refine vt_int B F X N T hk hd' hu (bd86_two _ _) (rowOK_small hrow).1 ?_
  rw [word_dec hrow hq]
  exact ret
theorem vtI1 {p q : Int} {u1 u2 tn tv : Tok} {v : Addr} {nm above beneath : Str} {less : Bool} (B : Below A₀ base outer h₀) (F : Fr h₀ L s.heap m) (X : (hd.heap_39 w.params).In h₀) (N : News h₀ L s.heap (news)) (T : Top hd.view_39 lo mean mg mb h₀) (hk : cs.kind = .function) (hd' : dp + 20 < recursionLimit) (hu : un + 120 < cLine) (hrow : RowOK less above beneath p q) (hq : q = 1) (ret : ∀ (t : Tok) h' tk', Fr h₀ L h' m → News h₀ L h' news → Q (.str (wordS less (p == 0) above beneath 0 0) t) { s with heap := h', toks := tk' }) : wpAny (model PySem.Challenge.rw_pq1295_01.row.prog w) (ktrTop dp un gd cn cs L a ccd cl outer) (call (.ref 86) [.int p tv]) Q E s := by
  refine vt_int B F X N T hk hd' hu (bd86_one _) (rowOK_small hrow).1 ?_
  rw [word_dec hrow hq]
  exact ret
theorem wordK {p q ahead more : Int} {ta tb th tm : Tok} {pt : Addr} {above beneath : Str} {less isn : Bool} (B : Below A₀ base outer h₀) (F : Fr h₀ L s.heap m) (X : (hd.heap_39 w.params).In h₀) (N : News h₀ L s.heap (news)) (T : Top hd.view_39 lo mean mg mb h₀) (hk : cs.kind = .function) (hd' : dp + 12 < recursionLimit) (hu : un + 80 < cLine) (hv : (pt, tupO [.bool less, .str above ta, .str beneath tb]) ∈ news) (hrow : RowOK less above beneath p q)
  (ha0 : 0 ≤ ahead) (ha1 : ahead < 10) (hm0 : 0 ≤ more) (hm1 : more < 10)
  (ret : ∀ (t : Tok) h' tk', Fr h₀ L h' m → News h₀ L h' news → (wordS less isn above beneath ahead.toNat more.toNat).length ≤ 9100 → Q (.str (wordS less isn above beneath ahead.toNat more.toNat) t) { s with heap := h', toks := tk' }) : wpAny (model PySem.Challenge.rw_pq1295_01.row.prog w) (ktrTop dp un gd cn cs L a ccd cl outer) (call (.ref 139) [.ref pt, .bool isn, .int ahead th, .int more tm]) Q E s := by
  have hl := rowOK_len hrow
  refine word_c B F X (news_dup N hv) T hk hd' hu hl.1 hl.2 ha0 ha1 hm0 hm1 ?_
  intro t h' tk' F2 N2
  exact ret t h' tk' F2 (fun z hz => N2 z (.tail _ hz)) (wordS_len hl.1 hl.2 (by omega) (by omega))
theorem word0 {p q : Int} {ta tb th tm : Tok} {pt : Addr} {above beneath : Str} {less isn : Bool} (B : Below A₀ base outer h₀) (F : Fr h₀ L s.heap m) (X : (hd.heap_39 w.params).In h₀) (N : News h₀ L s.heap (news)) (T : Top hd.view_39 lo mean mg mb h₀) (hk : cs.kind = .function) (hd' : dp + 12 < recursionLimit) (hu : un + 80 < cLine) (hv : (pt, tupO [.bool less, .str above ta, .str beneath tb]) ∈ news) (hrow : RowOK less above beneath p q)
  (ret : ∀ (t : Tok) h' tk', Fr h₀ L h' m → News h₀ L h' news → (wordS less isn above beneath 0 0).length ≤ 9100 → Q (.str (wordS less isn above beneath 0 0) t) { s with heap := h', toks := tk' }) : wpAny (model PySem.Challenge.rw_pq1295_01.row.prog w) (ktrTop dp un gd cn cs L a ccd cl outer) (call (.ref 139) [.ref pt, .bool isn, .int 0 th, .int 0 tm]) Q E s :=
  wordK (ahead := 0) (more := 0) B F X N T hk hd' hu hv hrow (by decide) (by decide) (by decide) (by decide) ret
theorem num_some {x : Str} {tx : Tok} {p q : Int} (B : Below A₀ base outer h₀) (F : Fr h₀ L s.heap m) (X : (hd.heap_39 w.params).In h₀) (N : News h₀ L s.heap (news)) (T : Top hd.view_39 lo mean mg mb h₀) (hk : cs.kind = .function) (hd' : dp + 15 < recursionLimit) (hu : un + 100 < cLine) (hz : x.length ≤ 10000) (hx : numR x = some (p, q))
  (ret : ∀ r t1 t2 h' tk', Fr h₀ L h' m → News h₀ L h' ((r, tupO [.int p t1, .int q t2]) :: news) → (∀ z ∈ news, z.1 < r) → Q (.ref r) { s with heap := h', toks := tk' }) : wpAny (model PySem.Challenge.rw_pq1295_01.row.prog w) (ktrTop dp un gd cn cs L a ccd cl outer) (call (.ref 91) [.str x tx]) Q E s := by
  refine num_c B F X N T hk hd' hu hz (fun h => absurd (hx.symm.trans h) (by simp)) ?_
  intro p' q' h
  have e := hx.symm.trans h
  injection e with e
  injection e with e1 e2
  subst e1
  subst e2
  exact ret
theorem num_none {x : Str} {tx : Tok} (B : Below A₀ base outer h₀) (F : Fr h₀ L s.heap m) (X : (hd.heap_39 w.params).In h₀) (N : News h₀ L s.heap (news)) (T : Top hd.view_39 lo mean mg mb h₀) (hk : cs.kind = .function) (hd' : dp + 15 < recursionLimit) (hu : un + 100 < cLine) (hz : x.length ≤ 10000) (hx : numR x = none) (ret : ∀ h' tk', Fr h₀ L h' m → News h₀ L h' news → Q .none { s with heap := h', toks := tk' }) : wpAny (model PySem.Challenge.rw_pq1295_01.row.prog w) (ktrTop dp un gd cn cs L a ccd cl outer) (call (.ref 91) [.str x tx]) Q E s := by
  refine num_c B F X N T hk hd' hu hz (fun _ => ret) ?_
  intro p' q' h
  exact absurd (hx.symm.trans h) (by simp)
theorem ne_str_K {prog : Program} {A : Around} {x y : Str} {t u : Tok} (h : x ≠ y) (hq : Q (.bool true) s) : wpAny (model prog w) A (compareOp .NotEq (.str x t) (.str y u)) Q E s :=
  PyProof.Rows.ne_str (by rw [bne_iff_ne.mpr h]; exact hq)
theorem eq_str_N {prog : Program} {A : Around} {x y : Str} {t u : Tok} (h : x ≠ y) (hq : Q (.bool false) s) : wpAny (model prog w) A (compareOp .Eq (.str x t) (.str y u)) Q E s :=
  PyProof.Rows.eq_str (by rw [beq_false_of_ne h]; exact hq)
theorem ne_str_E {prog : Program} {A : Around} {x y : Str} {t u : Tok} (h : x = y) (hq : Q (.bool false) s) : wpAny (model prog w) A (compareOp .NotEq (.str x t) (.str y u)) Q E s :=
  PyProof.Rows.ne_str (by rw [h, bne_self_eq_false]; exact hq)
theorem eq_str_E {prog : Program} {A : Around} {x y : Str} {t u : Tok} (h : x = y) (hq : Q (.bool true) s) : wpAny (model prog w) A (compareOp .Eq (.str x t) (.str y u)) Q E s :=
  PyProof.Rows.eq_str (by rw [h, beq_self_eq_true]; exact hq)
theorem wn_false {p : Int} : false = true → p = 0 := fun h => nomatch h
theorem wn_zero {p : Int} : (p == 0) = true → p = 0 := fun h => by simpa using h
theorem ne_str_S {prog : Program} {A : Around} {x : Str} {t u : Tok} (hq : Q (.bool false) s) : wpAny (model prog w) A (compareOp .NotEq (.str x t) (.str x u)) Q E s :=
  PyProof.Rows.ne_str (by rw [bne_self_eq_false]; exact hq)
theorem eq_str_S {prog : Program} {A : Around} {x : Str} {t u : Tok} (hq : Q (.bool true) s) : wpAny (model prog w) A (compareOp .Eq (.str x t) (.str x u)) Q E s :=
  PyProof.Rows.eq_str (by rw [beq_self_eq_true]; exact hq)

def retW : Option Str → Tok → Value
  | none, _ => .none
  | some x, t => .str x t
def dueO (b : Bool) (nm : Str) (w : Str) : Option Str := if b = true ∧ nm ≠ Str.ofString "nv" then none else some w
theorem dueO_no {b : Bool} {nm z : Str} (h : b = true) (h' : nm ≠ Str.ofString "nv") : dueO b nm z = none := if_pos ⟨h, h'⟩
theorem dueO_nv {b : Bool} {nm z : Str} (h : nm = Str.ofString "nv") : dueO b nm z = some z := if_neg (fun k => k.2 h)
theorem dueO_int {b : Bool} {nm z : Str} (h : b = false) : dueO b nm z = some z := if_neg (fun k => by rw [h] at k; exact Bool.noConfusion k.1)
def IsRet (o : Option Str) (y : Value) : Prop := ∃ t, y = retW o t
theorem isRet_no {b : Bool} {nm z : Str} (h : b = true) (h' : nm ≠ Str.ofString "nv") : IsRet (dueO b nm z) .none := ⟨0, by rw [dueO_no h h']; rfl⟩
theorem isRet_nv {b : Bool} {nm z : Str} {t : Tok} (h : nm = Str.ofString "nv") : IsRet (dueO b nm z) (.str z t) := ⟨t, by rw [dueO_nv h]; rfl⟩
theorem isRet_int {b : Bool} {nm z : Str} {t : Tok} (h : b = false) : IsRet (dueO b nm z) (.str z t) := ⟨t, by rw [dueO_int h]; rfl⟩
theorem vtV2 {x : Addr} {Z : Obj} {v : Value} {b : Bool} {p q : Int} {tn : Tok} {nm above beneath : Str} {less : Bool} (B : Below A₀ base outer h₀) (F : Fr h₀ L s.heap m) (X : (hd.heap_39 w.params).In h₀) (N : News h₀ L s.heap (news)) (T : Top hd.view_39 lo mean mg mb h₀) (hk : cs.kind = .function) (hd' : dp + 20 < recursionLimit) (hu : un + 120 < cLine) (hok : NumV x Z v b p q) (hrow : RowOK less above beneath p q) (hv : (x, Z) ∈ news)
  (ret : ∀ (t : Tok) h' tk', Fr h₀ L h' m → News h₀ L h' news → Q (retW (dueO b nm (wordS less (p == 0) above beneath 0 0)) t) { s with heap := h', toks := tk' }) : wpAny (model PySem.Challenge.rw_pq1295_01.row.prog w) (ktrTop dp un gd cn cs L a ccd cl outer) (call (.ref 86) [v, .str nm tn]) Q E s := by
  rcases hok with ⟨hb, hq, t, rfl⟩ | ⟨hb, rfl, u1, u2, rfl⟩
  · rw [dueO_int hb] at ret
    exact vtI2 (u1 := 0) (u2 := 0) (v := x) B F X N T hk hd' hu hrow hq ret
  · by_cases hn : nm = Str.ofString "nv"
    · rw [dueO_nv hn] at ret
      exact vtR2 (tv := 0) B F X N T hk hd' hu hv hrow hn ret
    · rw [dueO_no hb hn] at ret
      exact vtN2 (tv := 0) (above := above) (beneath := beneath) (less := less) B F X N T hk hd' hu hv hn (ret 0)
theorem vtV1 {x : Addr} {Z : Obj} {v : Value} {b : Bool} {p q : Int} {nm above beneath : Str} {less : Bool} (B : Below A₀ base outer h₀) (F : Fr h₀ L s.heap m) (X : (hd.heap_39 w.params).In h₀) (N : News h₀ L s.heap (news)) (T : Top hd.view_39 lo mean mg mb h₀) (hk : cs.kind = .function) (hd' : dp + 20 < recursionLimit) (hu : un + 120 < cLine) (hok : NumV x Z v b p q) (hrow : RowOK less above beneath p q) (hn : nm = Str.ofString "nv") (hv : (x, Z) ∈ news)
  (ret : ∀ (t : Tok) h' tk', Fr h₀ L h' m → News h₀ L h' news → Q (retW (dueO b nm (wordS less (p == 0) above beneath 0 0)) t) { s with heap := h', toks := tk' }) : wpAny (model PySem.Challenge.rw_pq1295_01.row.prog w) (ktrTop dp un gd cn cs L a ccd cl outer) (call (.ref 86) [v]) Q E s := by
  rw [dueO_nv hn] at ret
  rcases hok with ⟨hb, hq, t, rfl⟩ | ⟨hb, rfl, u1, u2, rfl⟩
  · exact vtI1 (nm := nm) (tn := 0) (u1 := 0) (u2 := 0) (v := x) B F X N T hk hd' hu hrow hq ret
  · exact vtR1 (nm := nm) (tn := 0) (tv := 0) B F X N T hk hd' hu hv hrow ret
theorem eq_retW {prog : Program} {A : Around} {d : Option Str} {t u : Tok} (hA : A.handled = none) (hq : Q (.bool true) s) : wpAny (model prog w) A (compareOp .Eq (retW d t) (retW d u)) Q E s := by
  cases d with
  | none => exact EqNone.eq_none_none hq
  | some x => exact eq_str_S hq
theorem ne_retW {prog : Program} {A : Around} {d : Option Str} {t u : Tok} (hA : A.handled = none) (hq : Q (.bool false) s) : wpAny (model prog w) A (compareOp .NotEq (retW d t) (retW d u)) Q E s := by
  cases d with
  | none => exact EqNone.ne_none_none hq
  | some x => exact ne_str_S hq
def CutT (V : Value → Prop) (h₀ : Heap) (L tp np : Addr) (m : Str → Option Value) (nw : Obj → List (Addr × Obj)) (s : Shared) (v : Value) (s' : Shared) : Prop := V v ∧ ∃ o' h' tk, s' = { s with heap := h', toks := tk } ∧ Fr h₀ L h' m ∧ News h₀ L h' (nw o') ∧ TapeO tp np o'
theorem tapecut {prog : Program} {A : Around} {e : PySem.Expr} {env : Env} {nw : Obj → List (Addr × Obj)} (V : Value → Prop) (F : Fr h₀ L s.heap m) (U : ∀ o', Upd tp o o' news (nw o')) (hT : TapeO tp np o)
    (h1 : wpAny (model prog w) A (eval e env) (CutT V h₀ L tp np m nw s) E s) (h2 : ∀ v o' h' tk, V v → Fr h₀ L h' m → News h₀ L h' (nw o') → TapeO tp np o' → Q v { s with heap := h', toks := tk }) : wpAny (model prog w) A (eval e env) Q E s :=
  wpAny_mono h1 (by rintro v s' ⟨a, o', h', tk, rfl, b, c, d⟩; exact h2 v o' h' tk a b c d) (fun _ _ e => e)

theorem isRet_no' {b : Bool} {nm z : Str} (h : b = true) (h' : (nm != Str.ofString "nv") = true) : IsRet (dueO b nm z) .none := isRet_no h (by simpa using h')
theorem isRet_nv' {b : Bool} {nm z : Str} {t : Tok} (h : (nm != Str.ofString "nv") = false) : IsRet (dueO b nm z) (.str z t) := isRet_nv (by simpa using h)
theorem isRet_same {d : Option Str} {t : Tok} : IsRet d (retW d t) := ⟨t, rfl⟩
theorem isRet_sub {b : Bool} {nm z : Str} {t : Tok} (h : nm = Str.ofString "nv") : IsRet (dueO b nm z) (retW (dueO b (Str.ofString "nv") z) t) := ⟨t, by rw [h]⟩
theorem isRet_sub' {b : Bool} {nm z : Str} {t : Tok} (h : (nm == Str.ofString "nv") = true) : IsRet (dueO b nm z) (retW (dueO b (Str.ofString "nv") z) t) := isRet_sub (eq_of_beq h)
theorem duecut {prog : Program} {A : Around} {e : PySem.Expr} {env : Env} {x r pt pr : Addr} {Z : Obj} {v : Value} {b : Bool} {p q : Int} {tn : Tok} {nm above beneath : Str} {less : Bool} (_ : NumV x Z v b p q) (_ : RowOK less above beneath p q) (_ : News h₀ L s.heap news) (_ : (r, tupO [v, .str nm tn, .ref pt, .ref pr]) ∈ news)
    (h1 : wpAny (model prog w) A (eval e env) (CutEnd (IsRet (dueO b nm (wordS less (p == 0) above beneath 0 0))) s) E s) (h2 : ∀ t tk, Q (retW (dueO b nm (wordS less (p == 0) above beneath 0 0)) t) { s with toks := tk }) : wpAny (model prog w) A (eval e env) Q E s :=
  ifcut _ h1 (fun y tk ⟨t, e⟩ => e ▸ h2 t tk)
theorem toldcut {prog : Program} {A : Around} {e : PySem.Expr} {env : Env} {nw : Obj → List (Addr × Obj)} {x r pt pr : Addr} {Z : Obj} {v : Value} {b : Bool} {p q : Int} {tn : Tok} {nm above beneath : Str} {less : Bool} (_ : NumV x Z v b p q) (_ : RowOK less above beneath p q) (F : Fr h₀ L s.heap m) (_ : News h₀ L s.heap news) (U : ∀ o', Upd tp o o' news (nw o')) (hT : TapeO tp np o) (_ : (r, tupO [v, .str nm tn, .ref pt, .ref pr]) ∈ news)
    (h1 : wpAny (model prog w) A (eval e env) (CutT (IsRet (dueO b nm (wordS less (p == 0) above beneath 0 0))) h₀ L tp np m nw s) E s)
    (h2 : ∀ t o' h' tk, Fr h₀ L h' m → News h₀ L h' (nw o') → TapeO tp np o' → Q (retW (dueO b nm (wordS less (p == 0) above beneath 0 0)) t) { s with heap := h', toks := tk }) : wpAny (model prog w) A (eval e env) Q E s :=
  tapecut _ F U hT h1 (fun y o' h' tk ⟨t, e⟩ F' N' T' => e ▸ h2 t o' h' tk F' N' T')
theorem isT_c {A : Around} {x : Addr} {Z : Obj} {v : Value} {b : Bool} {p q : Int} (F : Fr h₀ L s.heap m) (N : News h₀ L s.heap news) (hok : NumV x Z v b p q) (hv : (x, Z) ∈ news) (X : (hd.heap_39 w.params).In h₀)
    (hq : ∀ tk, Q (.bool b) { s with toks := tk }) : wpAny (model PySem.Challenge.rw_pq1295_01.row.prog w) A (call (.builtin "isinstance") [v, .type "tuple"]) Q E s := by
  revert X
  k_fill
  intro X
  rcases hok with ⟨rfl, _, t, rfl⟩ | ⟨rfl, rfl, u1, u2, rfl⟩
  · k_steps
    exact hq _
  · replace N := news_dup N hv
    k_steps
    exact hq _

local macro_rules | `(tactic| walk_at "call ref") => `(tactic| (k_here; (with_reducible show wpAny _ _ (call (Value.ref 127) _) _ _ _); k_dflt (apply row_k); (iterate 16 walk_at "zz e"); walk_at "zz s"))
local macro_rules | `(tactic| walk_at "call ref") => `(tactic| (k_here; (with_reducible show wpAny _ _ (call (Value.ref 139) _) _ _ _); k_dflt (apply wordK); (iterate 14 walk_at "zz e"); walk_at "zz s"))
local macro_rules | `(tactic| walk_at "call ref") => `(tactic| (k_here; (with_reducible show wpAny _ _ (call (Value.ref 139) [_, _, Value.int 0 _, Value.int 0 _]) _ _ _); k_dflt (apply word0); (iterate 10 walk_at "zz e"); walk_at "zz s"))
local macro_rules | `(tactic| walk_at "call ref") => `(tactic| (k_here; (with_reducible show wpAny _ _ (call (Value.ref 91) _) _ _ _); k_dflt (apply num_some); (iterate 9 walk_at "zz e"); (first | with_reducible exact word_num (by assumption) wn_false _ _ | with_reducible exact word_num (by assumption) wn_zero _ _); walk_at "zz s"))
local macro_rules | `(tactic| walk_at "call ref") => `(tactic| (k_here; (with_reducible show wpAny _ _ (call (Value.ref 91) _) _ _ _); k_dflt (apply num_none); (iterate 9 walk_at "zz e"); ((with_reducible first | apply word_over | apply word_plus | apply word_two | apply word_dot); assumption); walk_at "zz s"))
local macro_rules | `(tactic| walk_at "call ref") => `(tactic| (k_here; (with_reducible show wpAny _ _ (call (Value.ref 86) [_]) _ _ _); k_dflt (apply vtV1); (iterate 12 walk_at "zz e"); walk_at "zz s"))
local macro_rules | `(tactic| walk_at "call ref") => `(tactic| (k_here; (with_reducible show wpAny _ _ (call (Value.ref 86) [_, _]) _ _ _); k_dflt (apply vtV2); (iterate 11 walk_at "zz e"); walk_at "zz s"))
local macro_rules | `(tactic| walk_at "compareOp NotEq") => `(tactic| ((with_reducible show wpAny _ _ (compareOp CmpOp.NotEq (retW _ _) (retW _ _)) _ _ _); refine ne_retW rfl ?_))
local macro_rules | `(tactic| walk_at "compareOp Eq") => `(tactic| ((with_reducible show wpAny _ _ (compareOp CmpOp.Eq (retW _ _) (retW _ _)) _ _ _); refine eq_retW rfl ?_))
local macro_rules | `(tactic| walk_at "call builtin:isinstance") => `(tactic| (k_here; k_dflt (apply isT_c); (iterate 5 (k_dflt (walk_at "zz c"))); intro))
section
local macro_rules | `(tactic| walk_at "eval IfExp") => `(tactic| (k_here; goal_lacks CutEnd CutT; refine hold ?_))
theorem right_h {times sort : Int} {tm ts : Tok} (B : Below A₀ base outer h₀) (F : Fr h₀ L s.heap m) (X : (hd.heap_39 w.params).In h₀) (N : News h₀ L s.heap ((tp, o) :: (np, nums) :: rest)) (T : Top hd.view_39 lo mean mg mb h₀) (hk : cs.kind = .function) (hd' : dp + 40 < recursionLimit) (hu : un + 260 < cLine)
  (h2 : ∀ p ∈ rest, p.1 ≠ tp) (hne : @Ne Nat np tp) (hT : TapeO tp np o) (hN : NumsO nums) (ht0 : 0 ≤ times) (ht1 : times ≤ 1434) (hs0 : 0 ≤ sort) (hs1 : sort < 4)
  (ret : ∀ o' h' tk', Fr h₀ L h' m → News h₀ L h' ((tp, o') :: (np, nums) :: rest) → TapeO tp np o' → Q (.bool true) { s with heap := h', toks := tk' })
  : wpAny (model PySem.Challenge.rw_pq1295_01.row.prog w) (ktrTop dp un gd cn cs L a ccd cl outer) (call (.ref 146) [.ref tp, .int sort ts, .int times tm]) Q E s := by
  revert X
  k_fill
  intro X
  refine wpAny_call ?_
  k_dflt (refine' code_def (binds := [(Str.ofString "tape", .ref tp), (Str.ofString "sort", .int sort ts), (Str.ofString "times", .int times tm)]) ?k1 ?k2 ?k3 ?k4 ?k5 ?kA ?kF ?kK ?k6 ?k7 ?k8 ?k9 ?kB ?_ ?c2 ?c3 ?c4 ?c5; (case kA => exact rfl); (case kF => exact rfl); (case kK => assumption); (case k1 => k_asm); (case k2 => k_asm); (case k3 => k_asm); (case k4 => k_asm); (case k5 => k_asm); (case k6 => k_is); (case k7 => k_is); (case k8 => ktr_room); (case k9 => exact BindsTo.of_eq rfl); (case c5 => decide); (case kB => exact locs rfl); (case c2 => exact rfl); (case c3 => exact rfl); (case c4 => exact rfl); k_whole; intro g' L' h' FG' F' N' B' X' T'; (try dsimp only); (try k_lift B'); (try k_fold))

  have hs1 : (Str.ofString "/0").length = 2 := by decide
  have hs2 : (Str.ofString "+").length = 1 := by decide
  have hs3 : (Str.ofString "/2/3").length = 4 := by decide
  have hs4 : (Str.ofString ".").length = 1 := by decide
  k_steps
  · rename Fr h₀ L _ _ => F2
    rename News h₀ L _ _ => N2
    exact ret _ _ _ F2 (news_of N2 (by ((repeat (refine List.forall_mem_cons.mpr ⟨(by repeat (first | exact List.Mem.head _ | refine List.Mem.tail _ ?_)), ?_⟩)); (intro p hp; repeat (first | exact hp | refine List.Mem.tail _ ?_))))) (by assumption)
  all_goals
    refine unhold ?_
    refine duecut (by assumption) (by assumption) (by k_asm) (by k_mem) ?_ ?_
    · k_steps
      all_goals first | exact ⟨isRet_no' (by assumption) (by assumption), _, rfl⟩ | exact ⟨isRet_nv' (by assumption), _, rfl⟩ | exact ⟨isRet_int (by assumption), _, rfl⟩
    intro td tkd
    dsimp only
    k_steps
    refine unhold ?_
    refine toldcut (by assumption) (by assumption) (by k_asm) (by k_asm) (by intro o'; k_upd) (by assumption) (by k_mem) ?_ ?_
    · k_steps
      all_goals (rename Fr _ _ _ _ => F8; rename News _ _ _ _ => N8; first | exact ⟨isRet_same, _, _, _, rfl, F8, N8, by assumption⟩ | exact ⟨isRet_sub (by assumption), _, _, _, rfl, F8, N8, by assumption⟩ | exact ⟨isRet_sub' (by assumption), _, _, _, rfl, F8, N8, by assumption⟩)
    intro tt o9 h9 tk9 F9 N9 hT9
    dsimp only
    k_steps
    rename Fr h₀ L _ _ => F2
    rename News h₀ L _ _ => N2
    exact ret _ _ _ F2 (news_of N2 (by ((repeat (refine List.forall_mem_cons.mpr ⟨(by repeat (first | exact List.Mem.head _ | refine List.Mem.tail _ ?_)), ?_⟩)); (intro p hp; repeat (first | exact hp | refine List.Mem.tail _ ?_))))) (by assumption)
theorem right_k {nw : Obj → List (Addr × Obj)} {times sort : Int} {tm ts : Tok} (B : Below A₀ base outer h₀) (F : Fr h₀ L s.heap m) (X : (hd.heap_39 w.params).In h₀) (N : News h₀ L s.heap (news)) (T : Top hd.view_39 lo mean mg mb h₀) (hk : cs.kind = .function) (hd' : dp + 40 < recursionLimit) (hu : un + 260 < cLine)
  (U : ∀ o', Upd tp o o' news (nw o')) (hT : TapeO tp np o) (hN : NumsO nums) (hn : (np, nums) ∈ news) (ht0 : 0 ≤ times) (ht1 : times ≤ 1434) (hs0 : 0 ≤ sort) (hs1 : sort < 4)
  (ret : ∀ o' h' tk', Fr h₀ L h' m → News h₀ L h' (nw o') → TapeO tp np o' → Q (.bool true) { s with heap := h', toks := tk' })
  : wpAny (model PySem.Challenge.rw_pq1295_01.row.prog w) (ktrTop dp un gd cn cs L a ccd cl outer) (call (.ref 146) [.ref tp, .int sort ts, .int times tm]) Q E s := by
  have hne : @Ne Nat tp np := by obtain ⟨_, _, _, _, _, _, _, _, h⟩ := hT; exact h
  obtain ⟨rest, N', h2, hR, hL⟩ := upd_lift N U hn hne
  exact right_h B F X N' T hk hd' hu h2 (Ne.symm hne) hT hN ht0 ht1 hs0 hs1 fun o' h' tk' F2 N2 => ret o' h' tk' F2 (hR _ _ [] N2)
end


section
open PySem.Calls PyProof.Rows.LCg
variable {prog : Program} {w : World} {A : Around} {E : Value → Shared → Prop} {s : Shared} {h₀ : Heap} {L : Addr} {m : Str → Option Value} {env : Env}
def SrcTAt (h₀ : Heap) (ax : Addr) (its : Array Value) (nw : List (Addr × Obj)) : Prop := h₀.IsTuple ax its ∨ ∃ o, (ax, o) ∈ nw ∧ o.cls = .type "tuple" ∧ ∃ n, o.data = .seq its n
theorem SrcTAt.tup {h₀ h : Heap} {L ax : Addr} {its : Array Value} {news : List (Addr × Obj)} (x : SrcTAt h₀ ax its news) (k : ∀ b o, h₀.get? b = some o → h.get? b = some o) (N : News h₀ L h news) : h.IsTuple ax its := by
  rcases x with ⟨o, e, r⟩ | ⟨o, hm, r⟩
  · exact ⟨o, k _ _ e, r⟩
  · exact ⟨o, (N _ hm).1, r⟩
def SrcT (prog : Program) (w : World) (A : Around) (h₀ : Heap) (L : Addr) (m : Str → Option Value) (env : Env) (elt : Expr) (x : Str) (scope : Scope) (cl : List (Str × Addr)) (Q : Value → Shared → Prop) (xv : Value) (s₁ : Shared) : Prop :=
  ∃ (ax : Addr) (its : Array Value) (news : List (Addr × Obj)), xv = .ref ax ∧ A.handled = none ∧ Fr h₀ L s₁.heap m ∧ News h₀ L s₁.heap news ∧ SrcTAt h₀ ax its news ∧ its.size ≤ sizeLine ∧
    ∀ s₂ : Shared, (∃ h, s₂ = { s₁ with heap := h }) → CompRest prog w A h₀ L m env elt x scope cl s₂ (SrcTAt h₀ ax its) (fun i v => its[i]? = some v) (FinE h₀ L m s₂ Q) its.size 0 [] news
theorem ListComp_T {elt iter : Expr} {x : Str} {px : Pos} {scope : Scope} {cl : List (Str × Addr)} {pos : Pos} {Q : Value → Shared → Prop} (F₀ : Fr h₀ L s.heap m)
    (hclos : closureFor scope env = pure cl) (hcell : ∀ y ∈ scope.names, y.2 ≠ .cell) (hkind : scope.kind = .function)
    (hnames : ∀ y ∈ scope.names, y.2 = .local → scope.names.lookup y.1 = some .local) (hx : scope.names.lookup x = some .local)
    (h : wpAny (model prog w) A (eval iter env) (SrcT prog w A h₀ L m env elt x scope cl Q) E s)
    (hs : ∀ x, foldedSetIterable iter env x = pure x := by intro _; rfl) :
    wpAny (model prog w) A (eval (.ListComp elt [⟨.Name x px, iter, [], 0⟩] scope pos) env) Q E s := by
  rw [eval_ListComp]
  refine wpAny_comprehension_free (use := none) rfl hs hclos hkind hnames (wpAny_mono h (fun xv s₁ h₁ => ?_) fun _ _ e => e)
  obtain ⟨ax, its, news, rfl, hh, F, N, S, hsz, R⟩ := h₁
  have ht := S.tup F.keep N
  have hlt : ax < s₁.heap.objs.size := by obtain ⟨o, ho, _⟩ := ht; exact Heap.lt_size ho
  refine wpAny_pyIter_tuple ht ?_
  refine block_U (S := SrcTAt h₀ ax its) (Walks.tuple hh s₁.heap.objs.size ax (Nat.ne_of_lt hlt) its) hsz (fun i h st => let ⟨o, ho, _⟩ := st.1; ⟨o, ho⟩)
    (fun i h h' o nw st e e' kb N' S' => ⟨?_, S'.tup kb N'⟩) hcell hkind hx ⟨⟨_, Heap.get?_push_size _ rfl, rfl, rfl⟩, ht.push _⟩ (fun b hb => ?_)
    (F.keeps fun _ _ e => Heap.get?_push_of_some _ e) (N.grown fun _ _ e => Heap.get?_push_of_some _ e) (Nat.ne_of_lt F.ns.lt) (next_is_new F) (fun p hp => Nat.ne_of_lt (Heap.lt_size (N p hp).1)) S (R _ ⟨_, rfl⟩) ?_
  · refine st.1.at fun o' q => ?_
    rw [e] at q
    cases q
    exact e'
  · show b < (s₁.heap.push _).objs.size
    rw [Heap.size_push]
    rcases List.mem_cons.mp hb with rfl | hb
    · exact Nat.lt_succ_self _
    · rw [List.mem_singleton.mp hb]; exact Nat.lt_succ_of_lt hlt
  · intro D C h tk m' ys news' F' N' o1 hn hC₀ hD₀ hCL hDL hCD offC fin
    refine ⟨m', hn, fun h'' hs'' => fin D h'' tk (F'.change hs'' hCL hC₀) (fun p hp => ?_) o1⟩
    refine ⟨hs''.extBut _ _ ?_ (N' p hp).1, (N' p hp).2⟩
    rcases List.mem_cons.mp hp with rfl | hp
    · exact Ne.symm hCD
    · exact offC p hp
theorem SrcT.mk {elt : Expr} {x : Str} {scope : Scope} {cl : List (Str × Addr)} {Q : Value → Shared → Prop} {ax : Addr} {its : List Value} {news : List (Addr × Obj)} {s₁ : Shared}
    (hh : A.handled = none) (F : Fr h₀ L s₁.heap m) (N : News h₀ L s₁.heap news) (S : SrcTAt h₀ ax its.toArray news) (hsz : its.length ≤ sizeLine)
    (R : ∀ g, CompRest prog w A h₀ L m env elt x scope cl { s₁ with heap := g } (SrcTAt h₀ ax its.toArray) (fun i v => its.toArray[i]? = some v) (FinE h₀ L m { s₁ with heap := g } Q) its.length 0 [] news) :
    SrcT prog w A h₀ L m env elt x scope cl Q (.ref ax) s₁ :=
  ⟨ax, its.toArray, news, rfl, hh, F, N, S, by rw [List.size_toArray]; exact hsz, fun _ ⟨g, e⟩ => by
    have := R g
    rw [e]
    rw [List.size_toArray]
    exact this⟩
theorem SrcTAt.made {h₀ : Heap} {ax : Addr} {its : List Value} {news : List (Addr × Obj)} (hm : (ax, ({ cls := .type "tuple", data := .seq its.toArray } : Obj)) ∈ news) : SrcTAt h₀ ax its.toArray news := .inr ⟨_, hm, rfl, _, rfl⟩
theorem SrcTAt.kept {h₀ : Heap} {K : Frag} {ax : Addr} {its : List Value} {n : Nat} {d : Option Addr} {sl : Array (Option Value)} {news : List (Addr × Obj)} (X : K.In h₀) (e : K.lookup ax = some { cls := .type "tuple", dict := d, data := .seq its.toArray n, slots := sl }) : SrcTAt h₀ ax its.toArray news := .inl ⟨_, X _ _ e, rfl, _, rfl⟩
end
theorem bools_of : ∀ {ys : List Value} {bs : List Bool}, ys.length = bs.length → (∀ (i : Nat) y, ys[i]? = some y → ∃ b, bs[i]? = some b ∧ y = Value.bool b) → ys = bs.map Value.bool
  | [], [], _, _ => rfl
  | [], _ :: _, h, _ => by simp at h
  | _ :: _, [], h, _ => by simp at h
  | y :: ys, b :: bs, hl, h => by
    obtain ⟨b', e, rfl⟩ := h 0 y rfl
    cases e
    rw [List.map_cons, bools_of (ys := ys) (bs := bs) (by simpa using hl) fun i y' hy => h (i + 1) y' hy]

section
local macro_rules | `(tactic| walk_at "CompSrc") => `(tactic| refine hold ?_)
local macro_rules | `(tactic| walk_at "eval ListComp") => `(tactic| refine hold ?_)
theorem tape_c {l : Addr} (B : Below A₀ base outer h₀) (F : Fr h₀ L s.heap m) (X : (hd.heap_39 w.params).In h₀) (N : News h₀ L s.heap (news)) (T : Top hd.view_39 lo mean mg mb h₀) (hk : cs.kind = .function) (hd' : dp + 20 < recursionLimit) (hu : un + 120 < cLine) (hl : h₀.IsList l vs.toArray) (hI : IntsAre vs ns) (hz : ns.length ≤ 63)
  (ret : ∀ (tp np : Addr) (o nums : Obj) h' tk', Fr h₀ L h' m → News h₀ L h' ((tp, o) :: (np, nums) :: news) → TapeO tp np o → NumsO nums → Q (.ref tp) { s with heap := h', toks := tk' })
  : wpAny (model PySem.Challenge.rw_pq1295_01.row.prog w) (ktrTop dp un gd cn cs L a ccd cl outer) (call (.ref 106) [.ref l]) Q E s := by
  revert X
  k_fill
  intro X
  refine wpAny_call ?_
  k_dflt (refine' code_def (binds := [(Str.ofString "script", .ref l)]) ?k1 ?k2 ?k3 ?k4 ?k5 ?kA ?kF ?kK ?k6 ?k7 ?k8 ?k9 ?kB ?_ ?c2 ?c3 ?c4 ?c5; (case kA => exact rfl); (case kF => exact rfl); (case kK => assumption); (case k1 => k_asm); (case k2 => k_asm); (case k3 => k_asm); (case k4 => k_asm); (case k5 => k_asm); (case k6 => k_is); (case k7 => k_is); (case k8 => ktr_room); (case k9 => exact BindsTo.of_eq rfl); (case c5 => decide); (case kB => exact locs rfl); (case c2 => exact rfl); (case c3 => exact rfl); (case c4 => exact rfl); k_whole; intro g' L' h' FG' F' N' B' X' T'; (try dsimp only); (try k_lift B'); (try k_fold))

  have hlg : g'.IsList l vs.toArray := by obtain ⟨o, ho, r⟩ := hl; exact ⟨o, FG'.keep _ _ ho, r⟩
  clear hl
  have hvs : vs.toArray.size ≤ 63 := by rw [List.size_toArray, hI.length]; exact hz
  k_steps
  refine unhold ?_
  refine LCg.ListComp_U (F₀ := by k_asm) (by with_unfolding_all rfl) (by decide) (by rfl) (by decide) (by rfl) ?_
  k_steps
  refine unhold ?_
  rename Fr _ _ _ _ => F1
  rename News _ _ _ _ => N1
  rename IntsAre _ (List.take 60 ns) => hI1
  have hlen : (List.take 60 ns).length ≤ 60 := by rw [List.length_take]; omega
  refine LCg.CompSrc.ledger rfl F1 N1 (.head _) (by rw [List.size_toArray, hI1.length, sizeLine_eq]; omega) (fun g => ?_)
  refine rest_gen (fun i y => ∃ x t, ((List.take 60 ns).map fun c => c.fmod 1000000007)[i]? = some x ∧ y = .int x t) ?_ ?_
  · intro i v I oI C oC D m₂ ys h tk E' hi hv hyl hC hx F' N' off ne
    rw [List.getElem?_toArray] at hv
    obtain ⟨n, t, rfl, hn⟩ := hI1.at i v hv
    clear F1 N1
    k_steps
    rename Fr _ _ _ _ => F8
    rename News _ _ _ _ => N8
    refine LCg.CompEnd.intro F8 N8 _ (fun p hp => hp) off (.inr ⟨_, .head _, rfl, _, rfl⟩) ⟨rfl, n.fmod 1000000007, _, ?_, rfl⟩
    rw [List.getElem?_map, hn]; rfl
  · intro ys hl hr D h tk F' N' off
    clear F1 N1
    have hI2 := intsAre_of (by rw [hl, List.size_toArray, hI1.length, List.length_map]) hr
    k_steps
    rename Fr h₀ L _ _ => F2
    rename News h₀ L _ _ => N2
    rename _ ∧ _ => hlt
    exact ret _ _ _ (W.listOf ys.toArray ys.length) _ _ F2 (news_of N2 (by ((repeat (refine List.forall_mem_cons.mpr ⟨(by repeat (first | exact List.Mem.head _ | refine List.Mem.tail _ ?_)), ?_⟩)); (intro p hp; repeat (first | exact hp | refine List.Mem.tail _ ?_))))) ⟨_, _, _, _, rfl, by decide, by decide, by decide, by first | exact Nat.ne_of_gt (And.left (by with_reducible assumption)) | exact Nat.ne_of_gt (And.left (And.right (by with_reducible assumption))) | exact Nat.ne_of_gt (And.left (And.right (And.right (by with_reducible assumption)))) | exact Nat.ne_of_gt (And.left (And.right (And.right (And.right (by with_reducible assumption))))) | exact Nat.ne_of_gt (And.left (And.right (And.right (And.right (And.right (by with_reducible assumption)))))) | exact Nat.ne_of_gt (And.left (And.right (And.right (And.right (And.right (And.right (by with_reducible assumption))))))) | exact Nat.ne_of_gt (And.left (And.right (And.right (And.right (And.right (And.right (And.right (by with_reducible assumption)))))))) | exact Nat.ne_of_gt (And.left (And.right (And.right (And.right (And.right (And.right (And.right (And.right (by with_reducible assumption))))))))) | exact Nat.ne_of_gt (And.left (And.right (And.right (And.right (And.right (And.right (And.right (And.right (And.right (by with_reducible assumption)))))))))) | (refine neN ?_; omega)⟩ ⟨_, _, _, rfl, hI2, by rw [List.length_map]; exact hlen⟩
end


def SpV (y : Value) : Prop := ∃ x t, y = Value.str x t ∧ numR x = none ∧ x.length ≤ 10
def spB : Value → Bool
  | .str x _ => (numR x).isNone && decide (x.length ≤ 10)
  | _ => false
theorem spB_of {y : Value} (h : spB y = true) : SpV y := by
  cases y with
  | str x t =>
    have h1 : spB (Value.str x t) = ((numR x).isNone && decide (x.length ≤ 10)) := rfl
    have h' := Bool.and_eq_true_iff.mp (h1.symm.trans h)
    exact ⟨x, t, rfl, Option.isNone_iff_eq_none.mp h'.1, of_decide_eq_true h'.2⟩
  | _ => cases h
theorem spoilt_item {prog : Program} {w : World} {A : Around} {E : Value → Shared → Prop} {s : Shared} {value slice : PySem.Expr} {K : Frag} {vs : List Value} {n : Nat} {d : Option Addr} {sl : Array (Option Value)} {l : Addr} {i m : Int} {u : Tok} {Q : Value → Shared → Prop}
    (X : K.In s.heap) (e : K.lookup l = some { cls := .type "tuple", dict := d, data := .seq vs.toArray n, slots := sl }) (hv : vs.all spB = true) (h0 : 0 ≤ i) (h1 : i < m) (hl : lenOk m vs = true)
    (hs : subscripted slice false (.ref l) (.int i u) = operate [.ref l, .int i u] (getItem (.ref l) (.int i u))) (h : ∀ x t, numR x = none → x.length ≤ 10 → Q (.str x t) s) : wpAny (model prog w) A (subscriptTail value slice (.ref l) (.int i u)) Q E s :=
  pick_K X e (fun y hy => spB_of (List.all_eq_true.mp hv y hy)) h0 h1 hl hs (fun y ⟨x, t, e, h2, h3⟩ => e ▸ h x t h2 h3)
theorem vtL1 {u1 u2 tn : Tok} {v : Addr} (B : Below A₀ base outer h₀) (F : Fr h₀ L s.heap m) (X : (hd.heap_39 w.params).In h₀) (N : News h₀ L s.heap (news)) (T : Top hd.view_39 lo mean mg mb h₀) (hk : cs.kind = .function) (hd' : dp + 20 < recursionLimit) (hu : un + 120 < cLine) (hv : (v, tupO [.int 3 u1, .int 1 u2]) ∈ news) (ret : ∀ (t : Tok) h' tk', Fr h₀ L h' m → News h₀ L h' news → Q (.str (Str.ofString "3") t) { s with heap := h', toks := tk' }) : wpAny (model PySem.Challenge.rw_pq1295_01.row.prog w) (ktrTop dp un gd cn cs L a ccd cl outer) (call (.ref 86) [.ref v]) Q E s := by
  refine vt_pair B F X (news_dup N hv) T hk hd' hu (bd86_one _) (by unfold smallI; decide +kernel) (by unfold smallI; decide +kernel) ?_
  intro t h' tk' F2 N2
  rw [show ratS 3 1 = Str.ofString "3" from by decide +kernel]
  exact ret t h' tk' F2 (fun z hz => N2 z (.tail _ hz))
theorem vtL2 {u1 u2 tn : Tok} {v : Addr} (B : Below A₀ base outer h₀) (F : Fr h₀ L s.heap m) (X : (hd.heap_39 w.params).In h₀) (N : News h₀ L s.heap (news)) (T : Top hd.view_39 lo mean mg mb h₀) (hk : cs.kind = .function) (hd' : dp + 20 < recursionLimit) (hu : un + 120 < cLine) (hv : (v, tupO [.int (0 - 3) u1, .int 4 u2]) ∈ news) (ret : ∀ (t : Tok) h' tk', Fr h₀ L h' m → News h₀ L h' news → Q (.str (Str.ofString "-3/4") t) { s with heap := h', toks := tk' }) : wpAny (model PySem.Challenge.rw_pq1295_01.row.prog w) (ktrTop dp un gd cn cs L a ccd cl outer) (call (.ref 86) [.ref v]) Q E s := by
  refine vt_pair B F X (news_dup N hv) T hk hd' hu (bd86_one _) (by unfold smallI; decide +kernel) (by unfold smallI; decide +kernel) ?_
  intro t h' tk' F2 N2
  rw [show ratS (0 - 3) 4 = Str.ofString "-3/4" from by decide +kernel]
  exact ret t h' tk' F2 (fun z hz => N2 z (.tail _ hz))
theorem vtL3 {u1 u2 tn : Tok} {v : Addr} (B : Below A₀ base outer h₀) (F : Fr h₀ L s.heap m) (X : (hd.heap_39 w.params).In h₀) (N : News h₀ L s.heap (news)) (T : Top hd.view_39 lo mean mg mb h₀) (hk : cs.kind = .function) (hd' : dp + 20 < recursionLimit) (hu : un + 120 < cLine) (hv : (v, tupO [.int 3 u1, .int 4 u2]) ∈ news) (ret : ∀ h' tk', Fr h₀ L h' m → News h₀ L h' news → Q .none { s with heap := h', toks := tk' }) : wpAny (model PySem.Challenge.rw_pq1295_01.row.prog w) (ktrTop dp un gd cn cs L a ccd cl outer) (call (.ref 86) [.ref v, .str (Str.ofString "bpb") tn]) Q E s := by
  refine vt_pairn B F X (news_dup N hv) T hk hd' hu (bd86_two _ _) (by decide +kernel) ?_
  intro h' tk' F2 N2
  exact ret h' tk' F2 (fun z hz => N2 z (.tail _ hz))

section
local macro_rules | `(tactic| walk_at "eval ListComp") => `(tactic| refine hold ?_)
local macro_rules | `(tactic| walk_at "SrcT") => `(tactic| refine hold ?_)
local macro_rules | `(tactic| walk_at "zz 1001") => `(tactic| fail)
theorem isp93 {tv : Tok} (B : Below A₀ base outer h₀) (F : Fr h₀ L s.heap m) (X : (hd.heap_39 w.params).In h₀) (N : News h₀ L s.heap (news)) (T : Top hd.view_39 lo mean mg mb h₀) (hk : cs.kind = .function) (hd' : dp + 12 < recursionLimit) (hu : un + 80 < cLine)
  (ret : ∀ h' tk', Fr h₀ L h' m → News h₀ L h' news → Q (.bool false) { s with heap := h', toks := tk' }) : wpAny (model PySem.Challenge.rw_pq1295_01.row.prog w) (ktrTop dp un gd cn cs L a ccd cl outer) (call (.ref 73) [.ref 93]) Q E s := by
  revert X
  k_fill
  intro X
  refine wpAny_call ?_
  k_dflt (refine' code_def (binds := [(Str.ofString "value", .ref 93)]) ?k1 ?k2 ?k3 ?k4 ?k5 ?kA ?kF ?kK ?k6 ?k7 ?k8 ?k9 ?kB ?_ ?c2 ?c3 ?c4 ?c5; (case kA => exact rfl); (case kF => exact rfl); (case kK => assumption); (case k1 => k_asm); (case k2 => k_asm); (case k3 => k_asm); (case k4 => k_asm); (case k5 => k_asm); (case k6 => k_is); (case k7 => k_is); (case k8 => ktr_room); (case k9 => exact BindsTo.of_eq rfl); (case c5 => decide); (case kB => exact locs rfl); (case c2 => exact rfl); (case c3 => exact rfl); (case c4 => exact rfl); k_whole; intro g' L' h' FG' F' N' B' X' T'; (try dsimp only); (try k_lift B'); (try k_fold))

  k_steps
  all_goals first | (rename Fr h₀ L _ _ => F2; rename News h₀ L _ _ => N2; exact ret _ _ F2 (news_of N2 (by ((repeat (refine List.forall_mem_cons.mpr ⟨(by repeat (first | exact List.Mem.head _ | refine List.Mem.tail _ ?_)), ?_⟩)); (intro p hp; repeat (first | exact hp | refine List.Mem.tail _ ?_))))))
theorem isp94 {tv : Tok} (B : Below A₀ base outer h₀) (F : Fr h₀ L s.heap m) (X : (hd.heap_39 w.params).In h₀) (N : News h₀ L s.heap (news)) (T : Top hd.view_39 lo mean mg mb h₀) (hk : cs.kind = .function) (hd' : dp + 12 < recursionLimit) (hu : un + 80 < cLine)
  (ret : ∀ h' tk', Fr h₀ L h' m → News h₀ L h' news → Q (.bool false) { s with heap := h', toks := tk' }) : wpAny (model PySem.Challenge.rw_pq1295_01.row.prog w) (ktrTop dp un gd cn cs L a ccd cl outer) (call (.ref 73) [.ref 94]) Q E s := by
  revert X
  k_fill
  intro X
  refine wpAny_call ?_
  k_dflt (refine' code_def (binds := [(Str.ofString "value", .ref 94)]) ?k1 ?k2 ?k3 ?k4 ?k5 ?kA ?kF ?kK ?k6 ?k7 ?k8 ?k9 ?kB ?_ ?c2 ?c3 ?c4 ?c5; (case kA => exact rfl); (case kF => exact rfl); (case kK => assumption); (case k1 => k_asm); (case k2 => k_asm); (case k3 => k_asm); (case k4 => k_asm); (case k5 => k_asm); (case k6 => k_is); (case k7 => k_is); (case k8 => ktr_room); (case k9 => exact BindsTo.of_eq rfl); (case c5 => decide); (case kB => exact locs rfl); (case c2 => exact rfl); (case c3 => exact rfl); (case c4 => exact rfl); k_whole; intro g' L' h' FG' F' N' B' X' T'; (try dsimp only); (try k_lift B'); (try k_fold))

  k_steps
  all_goals first | (rename Fr h₀ L _ _ => F2; rename News h₀ L _ _ => N2; exact ret _ _ F2 (news_of N2 (by ((repeat (refine List.forall_mem_cons.mpr ⟨(by repeat (first | exact List.Mem.head _ | refine List.Mem.tail _ ?_)), ?_⟩)); (intro p hp; repeat (first | exact hp | refine List.Mem.tail _ ?_))))))
theorem isp95 {tv : Tok} (B : Below A₀ base outer h₀) (F : Fr h₀ L s.heap m) (X : (hd.heap_39 w.params).In h₀) (N : News h₀ L s.heap (news)) (T : Top hd.view_39 lo mean mg mb h₀) (hk : cs.kind = .function) (hd' : dp + 12 < recursionLimit) (hu : un + 80 < cLine)
  (ret : ∀ h' tk', Fr h₀ L h' m → News h₀ L h' news → Q (.bool false) { s with heap := h', toks := tk' }) : wpAny (model PySem.Challenge.rw_pq1295_01.row.prog w) (ktrTop dp un gd cn cs L a ccd cl outer) (call (.ref 73) [.ref 95]) Q E s := by
  revert X
  k_fill
  intro X
  refine wpAny_call ?_
  k_dflt (refine' code_def (binds := [(Str.ofString "value", .ref 95)]) ?k1 ?k2 ?k3 ?k4 ?k5 ?kA ?kF ?kK ?k6 ?k7 ?k8 ?k9 ?kB ?_ ?c2 ?c3 ?c4 ?c5; (case kA => exact rfl); (case kF => exact rfl); (case kK => assumption); (case k1 => k_asm); (case k2 => k_asm); (case k3 => k_asm); (case k4 => k_asm); (case k5 => k_asm); (case k6 => k_is); (case k7 => k_is); (case k8 => ktr_room); (case k9 => exact BindsTo.of_eq rfl); (case c5 => decide); (case kB => exact locs rfl); (case c2 => exact rfl); (case c3 => exact rfl); (case c4 => exact rfl); k_whole; intro g' L' h' FG' F' N' B' X' T'; (try dsimp only); (try k_lift B'); (try k_fold))

  k_steps
  all_goals first | (rename Fr h₀ L _ _ => F2; rename News h₀ L _ _ => N2; exact ret _ _ F2 (news_of N2 (by ((repeat (refine List.forall_mem_cons.mpr ⟨(by repeat (first | exact List.Mem.head _ | refine List.Mem.tail _ ?_)), ?_⟩)); (intro p hp; repeat (first | exact hp | refine List.Mem.tail _ ?_))))))
theorem isp96 {tv : Tok} (B : Below A₀ base outer h₀) (F : Fr h₀ L s.heap m) (X : (hd.heap_39 w.params).In h₀) (N : News h₀ L s.heap (news)) (T : Top hd.view_39 lo mean mg mb h₀) (hk : cs.kind = .function) (hd' : dp + 12 < recursionLimit) (hu : un + 80 < cLine)
  (ret : ∀ h' tk', Fr h₀ L h' m → News h₀ L h' news → Q (.bool false) { s with heap := h', toks := tk' }) : wpAny (model PySem.Challenge.rw_pq1295_01.row.prog w) (ktrTop dp un gd cn cs L a ccd cl outer) (call (.ref 73) [.ref 96]) Q E s := by
  revert X
  k_fill
  intro X
  refine wpAny_call ?_
  k_dflt (refine' code_def (binds := [(Str.ofString "value", .ref 96)]) ?k1 ?k2 ?k3 ?k4 ?k5 ?kA ?kF ?kK ?k6 ?k7 ?k8 ?k9 ?kB ?_ ?c2 ?c3 ?c4 ?c5; (case kA => exact rfl); (case kF => exact rfl); (case kK => assumption); (case k1 => k_asm); (case k2 => k_asm); (case k3 => k_asm); (case k4 => k_asm); (case k5 => k_asm); (case k6 => k_is); (case k7 => k_is); (case k8 => ktr_room); (case k9 => exact BindsTo.of_eq rfl); (case c5 => decide); (case kB => exact locs rfl); (case c2 => exact rfl); (case c3 => exact rfl); (case c4 => exact rfl); k_whole; intro g' L' h' FG' F' N' B' X' T'; (try dsimp only); (try k_lift B'); (try k_fold))

  k_steps
  all_goals first | (rename Fr h₀ L _ _ => F2; rename News h₀ L _ _ => N2; exact ret _ _ F2 (news_of N2 (by ((repeat (refine List.forall_mem_cons.mpr ⟨(by repeat (first | exact List.Mem.head _ | refine List.Mem.tail _ ?_)), ?_⟩)); (intro p hp; repeat (first | exact hp | refine List.Mem.tail _ ?_))))))
theorem isp97 {tv : Tok} (B : Below A₀ base outer h₀) (F : Fr h₀ L s.heap m) (X : (hd.heap_39 w.params).In h₀) (N : News h₀ L s.heap (news)) (T : Top hd.view_39 lo mean mg mb h₀) (hk : cs.kind = .function) (hd' : dp + 12 < recursionLimit) (hu : un + 80 < cLine)
  (ret : ∀ h' tk', Fr h₀ L h' m → News h₀ L h' news → Q (.bool false) { s with heap := h', toks := tk' }) : wpAny (model PySem.Challenge.rw_pq1295_01.row.prog w) (ktrTop dp un gd cn cs L a ccd cl outer) (call (.ref 73) [.ref 97]) Q E s := by
  revert X
  k_fill
  intro X
  refine wpAny_call ?_
  k_dflt (refine' code_def (binds := [(Str.ofString "value", .ref 97)]) ?k1 ?k2 ?k3 ?k4 ?k5 ?kA ?kF ?kK ?k6 ?k7 ?k8 ?k9 ?kB ?_ ?c2 ?c3 ?c4 ?c5; (case kA => exact rfl); (case kF => exact rfl); (case kK => assumption); (case k1 => k_asm); (case k2 => k_asm); (case k3 => k_asm); (case k4 => k_asm); (case k5 => k_asm); (case k6 => k_is); (case k7 => k_is); (case k8 => ktr_room); (case k9 => exact BindsTo.of_eq rfl); (case c5 => decide); (case kB => exact locs rfl); (case c2 => exact rfl); (case c3 => exact rfl); (case c4 => exact rfl); k_whole; intro g' L' h' FG' F' N' B' X' T'; (try dsimp only); (try k_lift B'); (try k_fold))

  k_steps
  all_goals first | (rename Fr h₀ L _ _ => F2; rename News h₀ L _ _ => N2; exact ret _ _ F2 (news_of N2 (by ((repeat (refine List.forall_mem_cons.mpr ⟨(by repeat (first | exact List.Mem.head _ | refine List.Mem.tail _ ?_)), ?_⟩)); (intro p hp; repeat (first | exact hp | refine List.Mem.tail _ ?_))))))
theorem isp98 {tv : Tok} (B : Below A₀ base outer h₀) (F : Fr h₀ L s.heap m) (X : (hd.heap_39 w.params).In h₀) (N : News h₀ L s.heap (news)) (T : Top hd.view_39 lo mean mg mb h₀) (hk : cs.kind = .function) (hd' : dp + 12 < recursionLimit) (hu : un + 80 < cLine)
  (ret : ∀ h' tk', Fr h₀ L h' m → News h₀ L h' news → Q (.bool false) { s with heap := h', toks := tk' }) : wpAny (model PySem.Challenge.rw_pq1295_01.row.prog w) (ktrTop dp un gd cn cs L a ccd cl outer) (call (.ref 73) [.ref 98]) Q E s := by
  revert X
  k_fill
  intro X
  refine wpAny_call ?_
  k_dflt (refine' code_def (binds := [(Str.ofString "value", .ref 98)]) ?k1 ?k2 ?k3 ?k4 ?k5 ?kA ?kF ?kK ?k6 ?k7 ?k8 ?k9 ?kB ?_ ?c2 ?c3 ?c4 ?c5; (case kA => exact rfl); (case kF => exact rfl); (case kK => assumption); (case k1 => k_asm); (case k2 => k_asm); (case k3 => k_asm); (case k4 => k_asm); (case k5 => k_asm); (case k6 => k_is); (case k7 => k_is); (case k8 => ktr_room); (case k9 => exact BindsTo.of_eq rfl); (case c5 => decide); (case kB => exact locs rfl); (case c2 => exact rfl); (case c3 => exact rfl); (case c4 => exact rfl); k_whole; intro g' L' h' FG' F' N' B' X' T'; (try dsimp only); (try k_lift B'); (try k_fold))

  k_steps
  all_goals first | (rename Fr h₀ L _ _ => F2; rename News h₀ L _ _ => N2; exact ret _ _ F2 (news_of N2 (by ((repeat (refine List.forall_mem_cons.mpr ⟨(by repeat (first | exact List.Mem.head _ | refine List.Mem.tail _ ?_)), ?_⟩)); (intro p hp; repeat (first | exact hp | refine List.Mem.tail _ ?_))))))
theorem isp99 {tv : Tok} (B : Below A₀ base outer h₀) (F : Fr h₀ L s.heap m) (X : (hd.heap_39 w.params).In h₀) (N : News h₀ L s.heap (news)) (T : Top hd.view_39 lo mean mg mb h₀) (hk : cs.kind = .function) (hd' : dp + 12 < recursionLimit) (hu : un + 80 < cLine)
  (ret : ∀ h' tk', Fr h₀ L h' m → News h₀ L h' news → Q (.bool false) { s with heap := h', toks := tk' }) : wpAny (model PySem.Challenge.rw_pq1295_01.row.prog w) (ktrTop dp un gd cn cs L a ccd cl outer) (call (.ref 73) [.ref 99]) Q E s := by
  revert X
  k_fill
  intro X
  refine wpAny_call ?_
  k_dflt (refine' code_def (binds := [(Str.ofString "value", .ref 99)]) ?k1 ?k2 ?k3 ?k4 ?k5 ?kA ?kF ?kK ?k6 ?k7 ?k8 ?k9 ?kB ?_ ?c2 ?c3 ?c4 ?c5; (case kA => exact rfl); (case kF => exact rfl); (case kK => assumption); (case k1 => k_asm); (case k2 => k_asm); (case k3 => k_asm); (case k4 => k_asm); (case k5 => k_asm); (case k6 => k_is); (case k7 => k_is); (case k8 => ktr_room); (case k9 => exact BindsTo.of_eq rfl); (case c5 => decide); (case kB => exact locs rfl); (case c2 => exact rfl); (case c3 => exact rfl); (case c4 => exact rfl); k_whole; intro g' L' h' FG' F' N' B' X' T'; (try dsimp only); (try k_lift B'); (try k_fold))

  k_steps
  all_goals first | (rename Fr h₀ L _ _ => F2; rename News h₀ L _ _ => N2; exact ret _ _ F2 (news_of N2 (by ((repeat (refine List.forall_mem_cons.mpr ⟨(by repeat (first | exact List.Mem.head _ | refine List.Mem.tail _ ?_)), ?_⟩)); (intro p hp; repeat (first | exact hp | refine List.Mem.tail _ ?_))))))
theorem ispb {tv : Tok} (B : Below A₀ base outer h₀) (F : Fr h₀ L s.heap m) (X : (hd.heap_39 w.params).In h₀) (N : News h₀ L s.heap (news)) (T : Top hd.view_39 lo mean mg mb h₀) (hk : cs.kind = .function) (hd' : dp + 12 < recursionLimit) (hu : un + 80 < cLine)
  (ret : ∀ h' tk', Fr h₀ L h' m → News h₀ L h' news → Q (.bool false) { s with heap := h', toks := tk' }) : wpAny (model PySem.Challenge.rw_pq1295_01.row.prog w) (ktrTop dp un gd cn cs L a ccd cl outer) (call (.ref 73) [.bytes #[49, 50] tv]) Q E s := by
  revert X
  k_fill
  intro X
  refine wpAny_call ?_
  k_dflt (refine' code_def (binds := [(Str.ofString "value", .bytes #[49, 50] tv)]) ?k1 ?k2 ?k3 ?k4 ?k5 ?kA ?kF ?kK ?k6 ?k7 ?k8 ?k9 ?kB ?_ ?c2 ?c3 ?c4 ?c5; (case kA => exact rfl); (case kF => exact rfl); (case kK => assumption); (case k1 => k_asm); (case k2 => k_asm); (case k3 => k_asm); (case k4 => k_asm); (case k5 => k_asm); (case k6 => k_is); (case k7 => k_is); (case k8 => ktr_room); (case k9 => exact BindsTo.of_eq rfl); (case c5 => decide); (case kB => exact locs rfl); (case c2 => exact rfl); (case c3 => exact rfl); (case c4 => exact rfl); k_whole; intro g' L' h' FG' F' N' B' X' T'; (try dsimp only); (try k_lift B'); (try k_fold))

  k_steps
  all_goals first | (rename Fr h₀ L _ _ => F2; rename News h₀ L _ _ => N2; exact ret _ _ F2 (news_of N2 (by ((repeat (refine List.forall_mem_cons.mpr ⟨(by repeat (first | exact List.Mem.head _ | refine List.Mem.tail _ ?_)), ?_⟩)); (intro p hp; repeat (first | exact hp | refine List.Mem.tail _ ?_))))))
def StrV (y : Value) : Prop := (∃ i, i ∈ ([93, 94, 95, 96, 97, 98, 99] : List Addr) ∧ y = .ref i) ∨ ∃ t, y = .bytes #[49, 50] t
theorem strV_r {i : Addr} (h : i ∈ ([93, 94, 95, 96, 97, 98, 99] : List Addr)) : StrV (.ref i) := .inl ⟨_, h, rfl⟩
theorem strV_b {t : Tok} : StrV (.bytes #[49, 50] t) := .inr ⟨_, rfl⟩
theorem isp_s {v : Value} (B : Below A₀ base outer h₀) (F : Fr h₀ L s.heap m) (X : (hd.heap_39 w.params).In h₀) (N : News h₀ L s.heap (news)) (T : Top hd.view_39 lo mean mg mb h₀) (hk : cs.kind = .function) (hd' : dp + 12 < recursionLimit) (hu : un + 80 < cLine) (hv : StrV v)
  (ret : ∀ h' tk', Fr h₀ L h' m → News h₀ L h' news → Q (.bool false) { s with heap := h', toks := tk' }) : wpAny (model PySem.Challenge.rw_pq1295_01.row.prog w) (ktrTop dp un gd cn cs L a ccd cl outer) (call (.ref 73) [v]) Q E s := by
  rcases hv with ⟨i, h, rfl⟩ | ⟨t, rfl⟩
  rcases List.mem_cons.mp h with rfl | h
  · exact isp93 (tv := 0) B F X N T hk hd' hu ret
  rcases List.mem_cons.mp h with rfl | h
  · exact isp94 (tv := 0) B F X N T hk hd' hu ret
  rcases List.mem_cons.mp h with rfl | h
  · exact isp95 (tv := 0) B F X N T hk hd' hu ret
  rcases List.mem_cons.mp h with rfl | h
  · exact isp96 (tv := 0) B F X N T hk hd' hu ret
  rcases List.mem_cons.mp h with rfl | h
  · exact isp97 (tv := 0) B F X N T hk hd' hu ret
  rcases List.mem_cons.mp h with rfl | h
  · exact isp98 (tv := 0) B F X N T hk hd' hu ret
  rcases List.mem_cons.mp h with rfl | h
  · exact isp99 (tv := 0) B F X N T hk hd' hu ret
  · cases h
  · exact ispb B F X N T hk hd' hu ret
local macro_rules | `(tactic| walk_at "call ref") => `(tactic| (k_here; (with_reducible show wpAny _ _ (call (Value.ref 73) _) _ _ _); k_dflt (apply isp_s); (iterate 8 walk_at "zz e"); (first | exact strV_r (by decide) | exact strV_b); walk_at "zz s"))
theorem vts93 {tv : Tok} {nv : Value} {args : List Value} (B : Below A₀ base outer h₀) (F : Fr h₀ L s.heap m) (X : (hd.heap_39 w.params).In h₀) (N : News h₀ L s.heap (news)) (T : Top hd.view_39 lo mean mg mb h₀) (hk : cs.kind = .function) (hd' : dp + 20 < recursionLimit) (hu : un + 120 < cLine) (hb : Bd86 w args (.ref 93) nv)
  (ret : ∀ h' tk', Fr h₀ L h' m → News h₀ L h' news → Q .none { s with heap := h', toks := tk' }) : wpAny (model PySem.Challenge.rw_pq1295_01.row.prog w) (ktrTop dp un gd cn cs L a ccd cl outer) (call (.ref 86) args) Q E s := by
  revert X
  k_fill
  intro X
  refine wpAny_call ?_
  k_dflt (refine' code_def (binds := [(Str.ofString "value", .ref 93), (Str.ofString "name", nv)]) ?k1 ?k2 ?k3 ?k4 ?k5 ?kA ?kF ?kK ?k6 ?k7 ?k8 ?k9 ?kB ?_ ?c2 ?c3 ?c4 ?c5; (case kA => exact rfl); (case kF => exact rfl); (case kK => assumption); (case k1 => k_asm); (case k2 => k_asm); (case k3 => k_asm); (case k4 => k_asm); (case k5 => k_asm); (case k6 => k_is); (case k7 => k_is); (case k8 => ktr_room); (case k9 => exact hb _ _ (by k_in) rfl); (case c5 => decide); (case kB => exact locs rfl); (case c2 => exact rfl); (case c3 => exact rfl); (case c4 => exact rfl); k_whole; intro g' L' h' FG' F' N' B' X' T'; (try dsimp only); (try k_lift B'); (try k_fold))

  k_steps
  all_goals first | (rename Fr h₀ L _ _ => F2; rename News h₀ L _ _ => N2; exact ret _ _ F2 (news_of N2 (by ((repeat (refine List.forall_mem_cons.mpr ⟨(by repeat (first | exact List.Mem.head _ | refine List.Mem.tail _ ?_)), ?_⟩)); (intro p hp; repeat (first | exact hp | refine List.Mem.tail _ ?_))))))

theorem vts94 {tv : Tok} {nv : Value} {args : List Value} (B : Below A₀ base outer h₀) (F : Fr h₀ L s.heap m) (X : (hd.heap_39 w.params).In h₀) (N : News h₀ L s.heap (news)) (T : Top hd.view_39 lo mean mg mb h₀) (hk : cs.kind = .function) (hd' : dp + 20 < recursionLimit) (hu : un + 120 < cLine) (hb : Bd86 w args (.ref 94) nv)
  (ret : ∀ h' tk', Fr h₀ L h' m → News h₀ L h' news → Q .none { s with heap := h', toks := tk' }) : wpAny (model PySem.Challenge.rw_pq1295_01.row.prog w) (ktrTop dp un gd cn cs L a ccd cl outer) (call (.ref 86) args) Q E s := by
  revert X
  k_fill
  intro X
  refine wpAny_call ?_
  k_dflt (refine' code_def (binds := [(Str.ofString "value", .ref 94), (Str.ofString "name", nv)]) ?k1 ?k2 ?k3 ?k4 ?k5 ?kA ?kF ?kK ?k6 ?k7 ?k8 ?k9 ?kB ?_ ?c2 ?c3 ?c4 ?c5; (case kA => exact rfl); (case kF => exact rfl); (case kK => assumption); (case k1 => k_asm); (case k2 => k_asm); (case k3 => k_asm); (case k4 => k_asm); (case k5 => k_asm); (case k6 => k_is); (case k7 => k_is); (case k8 => ktr_room); (case k9 => exact hb _ _ (by k_in) rfl); (case c5 => decide); (case kB => exact locs rfl); (case c2 => exact rfl); (case c3 => exact rfl); (case c4 => exact rfl); k_whole; intro g' L' h' FG' F' N' B' X' T'; (try dsimp only); (try k_lift B'); (try k_fold))

  k_steps
  refine unhold ?_
  refine ListComp_T (F₀ := by k_asm) (by with_unfolding_all rfl) (by decide) (by rfl) (by decide) (by rfl) ?_
  k_steps
  refine unhold ?_
  rename Fr _ _ _ _ => F7
  rename News _ _ _ _ => N7
  refine SrcT.mk rfl F7 N7 (SrcTAt.kept X' (by k_is)) (by rw [sizeLine_eq]; decide) (fun g => ?_)
  refine rest_gen (fun i y => ∃ b, [true, false][i]? = some b ∧ y = .bool b) ?_ ?_
  · intro i v I oI C oC D m₂ ys h tk E' hi hv hyl hC hx F' N' off ne
    rw [List.getElem?_toArray] at hv
    match i, hi with
    | 0, _ =>
      cases hv
      k_steps
      rename Fr _ _ _ _ => F8
      rename News _ _ _ _ => N8
      exact LCg.CompEnd.intro F8 N8 _ (fun p hp => hp) off (SrcTAt.kept X' (by k_is)) ⟨rfl, true, rfl, rfl⟩
    | 1, _ =>
      cases hv
      k_steps
      rename Fr _ _ _ _ => F8
      rename News _ _ _ _ => N8
      exact LCg.CompEnd.intro F8 N8 _ (fun p hp => hp) off (SrcTAt.kept X' (by k_is)) ⟨rfl, false, rfl, rfl⟩
  · intro ys hl hr D h tk F' N' off
    have e := bools_of (bs := [true, false]) hl hr
    subst e
    k_steps
    all_goals first | (rename Fr h₀ L _ _ => F2; rename News h₀ L _ _ => N2; exact ret _ _ F2 (news_of N2 (by ((repeat (refine List.forall_mem_cons.mpr ⟨(by repeat (first | exact List.Mem.head _ | refine List.Mem.tail _ ?_)), ?_⟩)); (intro p hp; repeat (first | exact hp | refine List.Mem.tail _ ?_))))))

theorem vts95 {tv : Tok} {nv : Value} {args : List Value} (B : Below A₀ base outer h₀) (F : Fr h₀ L s.heap m) (X : (hd.heap_39 w.params).In h₀) (N : News h₀ L s.heap (news)) (T : Top hd.view_39 lo mean mg mb h₀) (hk : cs.kind = .function) (hd' : dp + 20 < recursionLimit) (hu : un + 120 < cLine) (hb : Bd86 w args (.ref 95) nv)
  (ret : ∀ h' tk', Fr h₀ L h' m → News h₀ L h' news → Q .none { s with heap := h', toks := tk' }) : wpAny (model PySem.Challenge.rw_pq1295_01.row.prog w) (ktrTop dp un gd cn cs L a ccd cl outer) (call (.ref 86) args) Q E s := by
  revert X
  k_fill
  intro X
  refine wpAny_call ?_
  k_dflt (refine' code_def (binds := [(Str.ofString "value", .ref 95), (Str.ofString "name", nv)]) ?k1 ?k2 ?k3 ?k4 ?k5 ?kA ?kF ?kK ?k6 ?k7 ?k8 ?k9 ?kB ?_ ?c2 ?c3 ?c4 ?c5; (case kA => exact rfl); (case kF => exact rfl); (case kK => assumption); (case k1 => k_asm); (case k2 => k_asm); (case k3 => k_asm); (case k4 => k_asm); (case k5 => k_asm); (case k6 => k_is); (case k7 => k_is); (case k8 => ktr_room); (case k9 => exact hb _ _ (by k_in) rfl); (case c5 => decide); (case kB => exact locs rfl); (case c2 => exact rfl); (case c3 => exact rfl); (case c4 => exact rfl); k_whole; intro g' L' h' FG' F' N' B' X' T'; (try dsimp only); (try k_lift B'); (try k_fold))

  k_steps
  all_goals first | (rename Fr h₀ L _ _ => F2; rename News h₀ L _ _ => N2; exact ret _ _ F2 (news_of N2 (by ((repeat (refine List.forall_mem_cons.mpr ⟨(by repeat (first | exact List.Mem.head _ | refine List.Mem.tail _ ?_)), ?_⟩)); (intro p hp; repeat (first | exact hp | refine List.Mem.tail _ ?_))))))

theorem vts96 {tv : Tok} {nv : Value} {args : List Value} (B : Below A₀ base outer h₀) (F : Fr h₀ L s.heap m) (X : (hd.heap_39 w.params).In h₀) (N : News h₀ L s.heap (news)) (T : Top hd.view_39 lo mean mg mb h₀) (hk : cs.kind = .function) (hd' : dp + 20 < recursionLimit) (hu : un + 120 < cLine) (hb : Bd86 w args (.ref 96) nv)
  (ret : ∀ h' tk', Fr h₀ L h' m → News h₀ L h' news → Q .none { s with heap := h', toks := tk' }) : wpAny (model PySem.Challenge.rw_pq1295_01.row.prog w) (ktrTop dp un gd cn cs L a ccd cl outer) (call (.ref 86) args) Q E s := by
  revert X
  k_fill
  intro X
  refine wpAny_call ?_
  k_dflt (refine' code_def (binds := [(Str.ofString "value", .ref 96), (Str.ofString "name", nv)]) ?k1 ?k2 ?k3 ?k4 ?k5 ?kA ?kF ?kK ?k6 ?k7 ?k8 ?k9 ?kB ?_ ?c2 ?c3 ?c4 ?c5; (case kA => exact rfl); (case kF => exact rfl); (case kK => assumption); (case k1 => k_asm); (case k2 => k_asm); (case k3 => k_asm); (case k4 => k_asm); (case k5 => k_asm); (case k6 => k_is); (case k7 => k_is); (case k8 => ktr_room); (case k9 => exact hb _ _ (by k_in) rfl); (case c5 => decide); (case kB => exact locs rfl); (case c2 => exact rfl); (case c3 => exact rfl); (case c4 => exact rfl); k_whole; intro g' L' h' FG' F' N' B' X' T'; (try dsimp only); (try k_lift B'); (try k_fold))

  k_steps
  all_goals first | (rename Fr h₀ L _ _ => F2; rename News h₀ L _ _ => N2; exact ret _ _ F2 (news_of N2 (by ((repeat (refine List.forall_mem_cons.mpr ⟨(by repeat (first | exact List.Mem.head _ | refine List.Mem.tail _ ?_)), ?_⟩)); (intro p hp; repeat (first | exact hp | refine List.Mem.tail _ ?_))))))

theorem vts97 {tv : Tok} {nv : Value} {args : List Value} (B : Below A₀ base outer h₀) (F : Fr h₀ L s.heap m) (X : (hd.heap_39 w.params).In h₀) (N : News h₀ L s.heap (news)) (T : Top hd.view_39 lo mean mg mb h₀) (hk : cs.kind = .function) (hd' : dp + 20 < recursionLimit) (hu : un + 120 < cLine) (hb : Bd86 w args (.ref 97) nv)
  (ret : ∀ h' tk', Fr h₀ L h' m → News h₀ L h' news → Q .none { s with heap := h', toks := tk' }) : wpAny (model PySem.Challenge.rw_pq1295_01.row.prog w) (ktrTop dp un gd cn cs L a ccd cl outer) (call (.ref 86) args) Q E s := by
  revert X
  k_fill
  intro X
  refine wpAny_call ?_
  k_dflt (refine' code_def (binds := [(Str.ofString "value", .ref 97), (Str.ofString "name", nv)]) ?k1 ?k2 ?k3 ?k4 ?k5 ?kA ?kF ?kK ?k6 ?k7 ?k8 ?k9 ?kB ?_ ?c2 ?c3 ?c4 ?c5; (case kA => exact rfl); (case kF => exact rfl); (case kK => assumption); (case k1 => k_asm); (case k2 => k_asm); (case k3 => k_asm); (case k4 => k_asm); (case k5 => k_asm); (case k6 => k_is); (case k7 => k_is); (case k8 => ktr_room); (case k9 => exact hb _ _ (by k_in) rfl); (case c5 => decide); (case kB => exact locs rfl); (case c2 => exact rfl); (case c3 => exact rfl); (case c4 => exact rfl); k_whole; intro g' L' h' FG' F' N' B' X' T'; (try dsimp only); (try k_lift B'); (try k_fold))

  k_steps
  all_goals first | (rename Fr h₀ L _ _ => F2; rename News h₀ L _ _ => N2; exact ret _ _ F2 (news_of N2 (by ((repeat (refine List.forall_mem_cons.mpr ⟨(by repeat (first | exact List.Mem.head _ | refine List.Mem.tail _ ?_)), ?_⟩)); (intro p hp; repeat (first | exact hp | refine List.Mem.tail _ ?_))))))

theorem vts98 {tv : Tok} {nv : Value} {args : List Value} (B : Below A₀ base outer h₀) (F : Fr h₀ L s.heap m) (X : (hd.heap_39 w.params).In h₀) (N : News h₀ L s.heap (news)) (T : Top hd.view_39 lo mean mg mb h₀) (hk : cs.kind = .function) (hd' : dp + 20 < recursionLimit) (hu : un + 120 < cLine) (hb : Bd86 w args (.ref 98) nv)
  (ret : ∀ h' tk', Fr h₀ L h' m → News h₀ L h' news → Q .none { s with heap := h', toks := tk' }) : wpAny (model PySem.Challenge.rw_pq1295_01.row.prog w) (ktrTop dp un gd cn cs L a ccd cl outer) (call (.ref 86) args) Q E s := by
  revert X
  k_fill
  intro X
  refine wpAny_call ?_
  k_dflt (refine' code_def (binds := [(Str.ofString "value", .ref 98), (Str.ofString "name", nv)]) ?k1 ?k2 ?k3 ?k4 ?k5 ?kA ?kF ?kK ?k6 ?k7 ?k8 ?k9 ?kB ?_ ?c2 ?c3 ?c4 ?c5; (case kA => exact rfl); (case kF => exact rfl); (case kK => assumption); (case k1 => k_asm); (case k2 => k_asm); (case k3 => k_asm); (case k4 => k_asm); (case k5 => k_asm); (case k6 => k_is); (case k7 => k_is); (case k8 => ktr_room); (case k9 => exact hb _ _ (by k_in) rfl); (case c5 => decide); (case kB => exact locs rfl); (case c2 => exact rfl); (case c3 => exact rfl); (case c4 => exact rfl); k_whole; intro g' L' h' FG' F' N' B' X' T'; (try dsimp only); (try k_lift B'); (try k_fold))

  k_steps
  all_goals first | (rename Fr h₀ L _ _ => F2; rename News h₀ L _ _ => N2; exact ret _ _ F2 (news_of N2 (by ((repeat (refine List.forall_mem_cons.mpr ⟨(by repeat (first | exact List.Mem.head _ | refine List.Mem.tail _ ?_)), ?_⟩)); (intro p hp; repeat (first | exact hp | refine List.Mem.tail _ ?_))))))

theorem vts99 {tv : Tok} {nv : Value} {args : List Value} (B : Below A₀ base outer h₀) (F : Fr h₀ L s.heap m) (X : (hd.heap_39 w.params).In h₀) (N : News h₀ L s.heap (news)) (T : Top hd.view_39 lo mean mg mb h₀) (hk : cs.kind = .function) (hd' : dp + 20 < recursionLimit) (hu : un + 120 < cLine) (hb : Bd86 w args (.ref 99) nv)
  (ret : ∀ h' tk', Fr h₀ L h' m → News h₀ L h' news → Q .none { s with heap := h', toks := tk' }) : wpAny (model PySem.Challenge.rw_pq1295_01.row.prog w) (ktrTop dp un gd cn cs L a ccd cl outer) (call (.ref 86) args) Q E s := by
  revert X
  k_fill
  intro X
  refine wpAny_call ?_
  k_dflt (refine' code_def (binds := [(Str.ofString "value", .ref 99), (Str.ofString "name", nv)]) ?k1 ?k2 ?k3 ?k4 ?k5 ?kA ?kF ?kK ?k6 ?k7 ?k8 ?k9 ?kB ?_ ?c2 ?c3 ?c4 ?c5; (case kA => exact rfl); (case kF => exact rfl); (case kK => assumption); (case k1 => k_asm); (case k2 => k_asm); (case k3 => k_asm); (case k4 => k_asm); (case k5 => k_asm); (case k6 => k_is); (case k7 => k_is); (case k8 => ktr_room); (case k9 => exact hb _ _ (by k_in) rfl); (case c5 => decide); (case kB => exact locs rfl); (case c2 => exact rfl); (case c3 => exact rfl); (case c4 => exact rfl); k_whole; intro g' L' h' FG' F' N' B' X' T'; (try dsimp only); (try k_lift B'); (try k_fold))

  k_steps
  refine unhold ?_
  refine ListComp_T (F₀ := by k_asm) (by with_unfolding_all rfl) (by decide) (by rfl) (by decide) (by rfl) ?_
  k_steps
  refine unhold ?_
  rename Fr _ _ _ _ => F7
  rename News _ _ _ _ => N7
  refine SrcT.mk rfl F7 N7 (SrcTAt.kept X' (by k_is)) (by rw [sizeLine_eq]; decide) (fun g => ?_)
  refine rest_gen (fun i y => ∃ b, [true, false][i]? = some b ∧ y = .bool b) ?_ ?_
  · intro i v I oI C oC D m₂ ys h tk E' hi hv hyl hC hx F' N' off ne
    rw [List.getElem?_toArray] at hv
    match i, hi with
    | 0, _ =>
      cases hv
      k_steps
      rename Fr _ _ _ _ => F8
      rename News _ _ _ _ => N8
      exact LCg.CompEnd.intro F8 N8 _ (fun p hp => hp) off (SrcTAt.kept X' (by k_is)) ⟨rfl, true, rfl, rfl⟩
    | 1, _ =>
      cases hv
      k_steps
      rename Fr _ _ _ _ => F8
      rename News _ _ _ _ => N8
      exact LCg.CompEnd.intro F8 N8 _ (fun p hp => hp) off (SrcTAt.kept X' (by k_is)) ⟨rfl, false, rfl, rfl⟩
  · intro ys hl hr D h tk F' N' off
    have e := bools_of (bs := [true, false]) hl hr
    subst e
    k_steps
    all_goals first | (rename Fr h₀ L _ _ => F2; rename News h₀ L _ _ => N2; exact ret _ _ F2 (news_of N2 (by ((repeat (refine List.forall_mem_cons.mpr ⟨(by repeat (first | exact List.Mem.head _ | refine List.Mem.tail _ ?_)), ?_⟩)); (intro p hp; repeat (first | exact hp | refine List.Mem.tail _ ?_))))))

theorem vtsb {tv : Tok} {nv : Value} {args : List Value} (B : Below A₀ base outer h₀) (F : Fr h₀ L s.heap m) (X : (hd.heap_39 w.params).In h₀) (N : News h₀ L s.heap (news)) (T : Top hd.view_39 lo mean mg mb h₀) (hk : cs.kind = .function) (hd' : dp + 20 < recursionLimit) (hu : un + 120 < cLine) (hb : Bd86 w args (.bytes #[49, 50] tv) nv)
  (ret : ∀ h' tk', Fr h₀ L h' m → News h₀ L h' news → Q .none { s with heap := h', toks := tk' }) : wpAny (model PySem.Challenge.rw_pq1295_01.row.prog w) (ktrTop dp un gd cn cs L a ccd cl outer) (call (.ref 86) args) Q E s := by
  revert X
  k_fill
  intro X
  refine wpAny_call ?_
  k_dflt (refine' code_def (binds := [(Str.ofString "value", .bytes #[49, 50] tv), (Str.ofString "name", nv)]) ?k1 ?k2 ?k3 ?k4 ?k5 ?kA ?kF ?kK ?k6 ?k7 ?k8 ?k9 ?kB ?_ ?c2 ?c3 ?c4 ?c5; (case kA => exact rfl); (case kF => exact rfl); (case kK => assumption); (case k1 => k_asm); (case k2 => k_asm); (case k3 => k_asm); (case k4 => k_asm); (case k5 => k_asm); (case k6 => k_is); (case k7 => k_is); (case k8 => ktr_room); (case k9 => exact hb _ _ (by k_in) rfl); (case c5 => decide); (case kB => exact locs rfl); (case c2 => exact rfl); (case c3 => exact rfl); (case c4 => exact rfl); k_whole; intro g' L' h' FG' F' N' B' X' T'; (try dsimp only); (try k_lift B'); (try k_fold))

  k_steps
  all_goals first | (rename Fr h₀ L _ _ => F2; rename News h₀ L _ _ => N2; exact ret _ _ F2 (news_of N2 (by ((repeat (refine List.forall_mem_cons.mpr ⟨(by repeat (first | exact List.Mem.head _ | refine List.Mem.tail _ ?_)), ?_⟩)); (intro p hp; repeat (first | exact hp | refine List.Mem.tail _ ?_))))))

end


def scr : List Str := [Str.ofString "Latn", Str.ofString "Grek", Str.ofString "Zzzz"]
inductive OtherV (x : Addr) (X : Obj) : Value → Option Str → Prop
  | bool (b : Bool) : OtherV x X (.bool b) (some (if b = true then Str.ofString "Y" else Str.ofString "N"))
  | none : OtherV x X .none (some (Str.ofString "None"))
  | str (a : Str) (t : Tok) (h : a ∈ scr) : OtherV x X (.str a t) (some a)
  | tup (vs : List Value) (as : List Str) (h : X = tupO vs) (hs : StrsAre vs as) (h1 : 1 ≤ as.length) (h3 : as.length ≤ 3) (ha : ∀ a ∈ as, a ∈ scr) : OtherV x X (.ref x) (some (Txt.join (Str.ofString " ") as))
  | top (i : Addr) (h : i ∈ [93, 94, 95, 96, 97, 98, 99]) : OtherV x X (.ref i) Option.none
  | bytes (t : Tok) : OtherV x X (.bytes #[49, 50] t) Option.none
theorem scr_len {a : Str} (h : a ∈ scr) : a.length = 4 := by
  unfold scr at h
  rcases List.mem_cons.mp h with rfl | h
  · decide +kernel
  · rcases List.mem_cons.mp h with rfl | h
    · decide +kernel
    · rw [List.mem_singleton.mp h]; decide +kernel
theorem scr_sum {l : List Str} (h : ∀ a ∈ l, a ∈ scr) : (l.map (·.length)).sum = 4 * l.length := by
  induction l with
  | nil => rfl
  | cons a r ih =>
    rw [List.map_cons, List.sum_cons, ih (fun b hb => h b (.tail _ hb)), scr_len (h a (.head _)), List.length_cons, Nat.mul_succ]
    exact Nat.add_comm _ _
theorem scr_one : ∀ a ∈ scr, numR a = none := by decide +kernel
theorem scr_j1 : ∀ a ∈ scr, numR (Txt.join (Str.ofString " ") [a]) = none := by decide +kernel
theorem scr_j2 : ∀ a ∈ scr, ∀ b ∈ scr, numR (Txt.join (Str.ofString " ") [a, b]) = none := by decide +kernel
theorem scr_j3 : ∀ a ∈ scr, ∀ b ∈ scr, ∀ c ∈ scr, numR (Txt.join (Str.ofString " ") [a, b, c]) = none := by decide +kernel
theorem scr_join {as : List Str} (h1 : 1 ≤ as.length) (h3 : as.length ≤ 3) (ha : ∀ a ∈ as, a ∈ scr) : numR (Txt.join (Str.ofString " ") as) = none ∧ (Txt.join (Str.ofString " ") as).length ≤ 100 := by
  refine ⟨?_, ?_⟩
  · rcases as with _ | ⟨a, _ | ⟨b, _ | ⟨c, _ | ⟨d, r⟩⟩⟩⟩
    · exact absurd h1 (by decide)
    · exact scr_j1 a (ha a (.head _))
    · exact scr_j2 a (ha a (.head _)) b (ha b (.tail _ (.head _)))
    · exact scr_j3 a (ha a (.head _)) b (ha b (.tail _ (.head _))) c (ha c (.tail _ (.tail _ (.head _))))
    · exact absurd h3 (Nat.not_le.mpr (Nat.le_add_left 4 r.length))
  · show (Builtin.Str.glued _ _).length ≤ 100
    rw [StrLaws.glued_eq_join]
    refine Nat.le_trans (StrLaws.join_length_le _ _) ?_
    have e1 : (Str.ofString " ").length = 1 := by decide +kernel
    rw [scr_sum ha, e1, Nat.mul_one]
    exact Nat.le_trans (Nat.add_le_add (Nat.mul_le_mul_left 4 h3) h3) (by decide)
theorem other_num {x : Addr} {X : Obj} {v : Value} {a : Str} (h : OtherV x X v (some a)) : numR a = none ∧ a.length ≤ 100 := by
  cases h with
  | bool b => cases b <;> decide +kernel
  | none => decide +kernel
  | str a t h => exact ⟨scr_one a h, by rw [scr_len h]; decide⟩
  | tup vs as h hs h1 h3 ha => exact scr_join h1 h3 ha

theorem strs_mem {vs : List Value} {as : List Str} (h : StrsAre vs as) : ∀ y ∈ vs, ∃ x t, y = Value.str x t := by
  induction h with
  | nil => exact List.forall_mem_nil _
  | cons _ _ _ ih => exact List.forall_mem_cons.mpr ⟨⟨_, _, rfl⟩, ih⟩
theorem one_three {n : Nat} (h1 : 1 ≤ n) (h3 : n ≤ 3) : n = 1 ∨ n = 2 ∨ n = 3 := by
  have key : ∀ n : Fin 4, 1 ≤ n.val → n.val = 1 ∨ n.val = 2 ∨ n.val = 3 := by decide
  exact key ⟨n, Nat.lt_succ_of_le h3⟩ h1
theorem trues_of {ys : List Value} (h1 : 1 ≤ ys.length) (h3 : ys.length ≤ 3) (hr : ∀ (i : Nat) y, ys[i]? = some y → y = Value.bool true) : ys = [.bool true] ∨ ys = [.bool true, .bool true] ∨ ys = [.bool true, .bool true, .bool true] := by
  have e : ys = List.replicate ys.length (Value.bool true) := by
    refine List.eq_replicate_iff.mpr ⟨rfl, fun y hy => ?_⟩
    obtain ⟨i, hi⟩ := List.getElem?_of_mem hy
    exact hr i y hi
  rcases one_three h1 h3 with h | h | h <;> rw [h] at e
  · exact .inl e
  · exact .inr (.inl e)
  · exact .inr (.inr e)
theorem tuplen {prog : Program} {w : World} {A : Around} {E : Value → Shared → Prop} {s : Shared} {h₀ : Heap} {L v : Addr} {vs : List Value} {news : List (Addr × Obj)} {Q : Value → Shared → Prop} (N : News h₀ L s.heap news) (hm : (v, tupO vs) ∈ news) (hv : vs.length ≤ 3)
    (h : ∀ t tk, Q (.int (vs.length : Int) t) { s with toks := tk }) : wpAny (model prog w) A (call (.builtin "len") [.ref v]) Q E s :=
  len_tuple (items := vs.toArray) ⟨_, (N _ hm).1, rfl, _, rfl⟩ (by rw [List.size_toArray]; omega) (by rw [List.size_toArray]; exact h _ _)
section
local macro_rules | `(tactic| walk_at "eval ListComp") => `(tactic| refine hold ?_)
local macro_rules | `(tactic| walk_at "SrcT") => `(tactic| refine hold ?_)
theorem vto_bool {b : Bool} {nv : Value} {args : List Value} (B : Below A₀ base outer h₀) (F : Fr h₀ L s.heap m) (X : (hd.heap_39 w.params).In h₀) (N : News h₀ L s.heap (news)) (T : Top hd.view_39 lo mean mg mb h₀) (hk : cs.kind = .function) (hd' : dp + 20 < recursionLimit) (hu : un + 120 < cLine) (hb : Bd86 w args (.bool b) nv)
  (ret : ∀ (t : Tok) h' tk', Fr h₀ L h' m → News h₀ L h' news → Q (.str (if b = true then Str.ofString "Y" else Str.ofString "N") t) { s with heap := h', toks := tk' }) : wpAny (model PySem.Challenge.rw_pq1295_01.row.prog w) (ktrTop dp un gd cn cs L a ccd cl outer) (call (.ref 86) args) Q E s := by
  revert X
  k_fill
  intro X
  refine wpAny_call ?_
  k_dflt (refine' code_def (binds := [(Str.ofString "value", .bool b), (Str.ofString "name", nv)]) ?k1 ?k2 ?k3 ?k4 ?k5 ?kA ?kF ?kK ?k6 ?k7 ?k8 ?k9 ?kB ?_ ?c2 ?c3 ?c4 ?c5; (case kA => exact rfl); (case kF => exact rfl); (case kK => assumption); (case k1 => k_asm); (case k2 => k_asm); (case k3 => k_asm); (case k4 => k_asm); (case k5 => k_asm); (case k6 => k_is); (case k7 => k_is); (case k8 => ktr_room); (case k9 => exact hb _ _ (by k_in) rfl); (case c5 => decide); (case kB => exact locs rfl); (case c2 => exact rfl); (case c3 => exact rfl); (case c4 => exact rfl); k_whole; intro g' L' h' FG' F' N' B' X' T'; (try dsimp only); (try k_lift B'); (try k_fold))

  k_steps
  all_goals first | (rename b = true => q9; subst q9; rename Fr h₀ L _ _ => F2; rename News h₀ L _ _ => N2; exact ret _ _ _ F2 (news_of N2 (by ((repeat (refine List.forall_mem_cons.mpr ⟨(by repeat (first | exact List.Mem.head _ | refine List.Mem.tail _ ?_)), ?_⟩)); (intro p hp; repeat (first | exact hp | refine List.Mem.tail _ ?_)))))) | (rename b = false => q9; subst q9; rename Fr h₀ L _ _ => F2; rename News h₀ L _ _ => N2; exact ret _ _ _ F2 (news_of N2 (by ((repeat (refine List.forall_mem_cons.mpr ⟨(by repeat (first | exact List.Mem.head _ | refine List.Mem.tail _ ?_)), ?_⟩)); (intro p hp; repeat (first | exact hp | refine List.Mem.tail _ ?_))))))

theorem vto_none  {nv : Value} {args : List Value} (B : Below A₀ base outer h₀) (F : Fr h₀ L s.heap m) (X : (hd.heap_39 w.params).In h₀) (N : News h₀ L s.heap (news)) (T : Top hd.view_39 lo mean mg mb h₀) (hk : cs.kind = .function) (hd' : dp + 20 < recursionLimit) (hu : un + 120 < cLine) (hb : Bd86 w args (.none) nv)
  (ret : ∀ (t : Tok) h' tk', Fr h₀ L h' m → News h₀ L h' news → Q (.str (Str.ofString "None") t) { s with heap := h', toks := tk' }) : wpAny (model PySem.Challenge.rw_pq1295_01.row.prog w) (ktrTop dp un gd cn cs L a ccd cl outer) (call (.ref 86) args) Q E s := by
  revert X
  k_fill
  intro X
  refine wpAny_call ?_
  k_dflt (refine' code_def (binds := [(Str.ofString "value", .none), (Str.ofString "name", nv)]) ?k1 ?k2 ?k3 ?k4 ?k5 ?kA ?kF ?kK ?k6 ?k7 ?k8 ?k9 ?kB ?_ ?c2 ?c3 ?c4 ?c5; (case kA => exact rfl); (case kF => exact rfl); (case kK => assumption); (case k1 => k_asm); (case k2 => k_asm); (case k3 => k_asm); (case k4 => k_asm); (case k5 => k_asm); (case k6 => k_is); (case k7 => k_is); (case k8 => ktr_room); (case k9 => exact hb _ _ (by k_in) rfl); (case c5 => decide); (case kB => exact locs rfl); (case c2 => exact rfl); (case c3 => exact rfl); (case c4 => exact rfl); k_whole; intro g' L' h' FG' F' N' B' X' T'; (try dsimp only); (try k_lift B'); (try k_fold))

  k_steps
  all_goals first | (rename Fr h₀ L _ _ => F2; rename News h₀ L _ _ => N2; exact ret _ _ _ F2 (news_of N2 (by ((repeat (refine List.forall_mem_cons.mpr ⟨(by repeat (first | exact List.Mem.head _ | refine List.Mem.tail _ ?_)), ?_⟩)); (intro p hp; repeat (first | exact hp | refine List.Mem.tail _ ?_))))))

theorem vto_str {z : Str} {ta : Tok} {nv : Value} {args : List Value} (B : Below A₀ base outer h₀) (F : Fr h₀ L s.heap m) (X : (hd.heap_39 w.params).In h₀) (N : News h₀ L s.heap (news)) (T : Top hd.view_39 lo mean mg mb h₀) (hk : cs.kind = .function) (hd' : dp + 20 < recursionLimit) (hu : un + 120 < cLine) (hb : Bd86 w args (.str z ta) nv)
  (ret : ∀ (t : Tok) h' tk', Fr h₀ L h' m → News h₀ L h' news → Q (.str z t) { s with heap := h', toks := tk' }) : wpAny (model PySem.Challenge.rw_pq1295_01.row.prog w) (ktrTop dp un gd cn cs L a ccd cl outer) (call (.ref 86) args) Q E s := by
  revert X
  k_fill
  intro X
  refine wpAny_call ?_
  k_dflt (refine' code_def (binds := [(Str.ofString "value", .str z ta), (Str.ofString "name", nv)]) ?k1 ?k2 ?k3 ?k4 ?k5 ?kA ?kF ?kK ?k6 ?k7 ?k8 ?k9 ?kB ?_ ?c2 ?c3 ?c4 ?c5; (case kA => exact rfl); (case kF => exact rfl); (case kK => assumption); (case k1 => k_asm); (case k2 => k_asm); (case k3 => k_asm); (case k4 => k_asm); (case k5 => k_asm); (case k6 => k_is); (case k7 => k_is); (case k8 => ktr_room); (case k9 => exact hb _ _ (by k_in) rfl); (case c5 => decide); (case kB => exact locs rfl); (case c2 => exact rfl); (case c3 => exact rfl); (case c4 => exact rfl); k_whole; intro g' L' h' FG' F' N' B' X' T'; (try dsimp only); (try k_lift B'); (try k_fold))

  k_steps
  all_goals first | (rename Fr h₀ L _ _ => F2; rename News h₀ L _ _ => N2; exact ret _ _ _ F2 (news_of N2 (by ((repeat (refine List.forall_mem_cons.mpr ⟨(by repeat (first | exact List.Mem.head _ | refine List.Mem.tail _ ?_)), ?_⟩)); (intro p hp; repeat (first | exact hp | refine List.Mem.tail _ ?_))))))

local macro_rules | `(tactic| walk_at "subscriptTail") => `(tactic| (k_here; with_reducible apply pick_0; (iterate 4 walk_at "zz e"); with_unfolding_all rfl; intros))
local macro_rules | `(tactic| walk_at "call builtin:len") => `(tactic| (k_here; with_reducible apply tuplen; (iterate 3 walk_at "zz e"); intros; (try dsimp only)))
theorem ispt {v : Addr} {vs : List Value} (B : Below A₀ base outer h₀) (F : Fr h₀ L s.heap m) (X : (hd.heap_39 w.params).In h₀) (N : News h₀ L s.heap ((v, tupO vs) :: news)) (T : Top hd.view_39 lo mean mg mb h₀) (hk : cs.kind = .function) (hd' : dp + 12 < recursionLimit) (hu : un + 80 < cLine) (hstr : ∀ y ∈ vs, ∃ x t, y = Value.str x t) (h1 : 1 ≤ vs.length) (h3 : vs.length ≤ 3)
  (ret : ∀ h' tk', Fr h₀ L h' m → News h₀ L h' ((v, tupO vs) :: news) → Q (.bool false) { s with heap := h', toks := tk' }) : wpAny (model PySem.Challenge.rw_pq1295_01.row.prog w) (ktrTop dp un gd cn cs L a ccd cl outer) (call (.ref 73) [.ref v]) Q E s := by
  revert X
  k_fill
  intro X
  refine wpAny_call ?_
  k_dflt (refine' code_def (binds := [(Str.ofString "value", .ref v)]) ?k1 ?k2 ?k3 ?k4 ?k5 ?kA ?kF ?kK ?k6 ?k7 ?k8 ?k9 ?kB ?_ ?c2 ?c3 ?c4 ?c5; (case kA => exact rfl); (case kF => exact rfl); (case kK => assumption); (case k1 => k_asm); (case k2 => k_asm); (case k3 => k_asm); (case k4 => k_asm); (case k5 => k_asm); (case k6 => k_is); (case k7 => k_is); (case k8 => ktr_room); (case k9 => exact BindsTo.of_eq rfl); (case c5 => decide); (case kB => exact locs rfl); (case c2 => exact rfl); (case c3 => exact rfl); (case c4 => exact rfl); k_whole; intro g' L' h' FG' F' N' B' X' T'; (try dsimp only); (try k_lift B'); (try k_fold))

  k_steps
  all_goals first | (rename Fr h₀ L _ _ => F2; rename News h₀ L _ _ => N2; exact ret _ _ F2 (news_of N2 (by ((repeat (refine List.forall_mem_cons.mpr ⟨(by repeat (first | exact List.Mem.head _ | refine List.Mem.tail _ ?_)), ?_⟩)); (intro p hp; repeat (first | exact hp | refine List.Mem.tail _ ?_)))))) | (rename (vs.length : Int) ≠ 2 => q2; rename Fr h₀ L _ _ => F2; rename News h₀ L _ _ => N2; have e2 : ((vs.length : Int) == 2) = false := beq_false_of_ne q2; rw [e2]; exact ret _ _ F2 (news_of N2 (by ((repeat (refine List.forall_mem_cons.mpr ⟨(by repeat (first | exact List.Mem.head _ | refine List.Mem.tail _ ?_)), ?_⟩)); (intro p hp; repeat (first | exact hp | refine List.Mem.tail _ ?_))))))
local macro_rules | `(tactic| walk_at "call ref") => `(tactic| (k_here; (with_reducible show wpAny _ _ (call (Value.ref 73) _) _ _ _); k_dflt (apply ispt); (iterate 11 walk_at "zz e"); walk_at "zz s"))
local macro_rules | `(tactic| walk_at "call builtin:str.join") => `(tactic| refine hold ?_)
local macro_rules | `(tactic| walk_at "eval ListComp") => `(tactic| refine hold ?_)
local macro_rules | `(tactic| walk_at "SrcT") => `(tactic| refine hold ?_)
theorem vto_tup {v : Addr} {vs : List Value} {as : List Str} {nv : Value} {args : List Value} (B : Below A₀ base outer h₀) (F : Fr h₀ L s.heap m) (X : (hd.heap_39 w.params).In h₀) (N : News h₀ L s.heap ((v, tupO vs) :: news)) (T : Top hd.view_39 lo mean mg mb h₀) (hk : cs.kind = .function) (hd' : dp + 20 < recursionLimit) (hu : un + 120 < cLine) (hb : Bd86 w args (.ref v) nv) (hs : StrsAre vs as) (h1 : 1 ≤ as.length) (h3 : as.length ≤ 3)
  (hj : (as.map (·.length)).sum + as.length * (Str.ofString " ").length ≤ 16777216)
  (ret : ∀ (t : Tok) h' tk', Fr h₀ L h' m → News h₀ L h' ((v, tupO vs) :: news) → Q (.str (Txt.join (Str.ofString " ") as) t) { s with heap := h', toks := tk' }) : wpAny (model PySem.Challenge.rw_pq1295_01.row.prog w) (ktrTop dp un gd cn cs L a ccd cl outer) (call (.ref 86) args) Q E s := by
  revert X
  k_fill
  intro X
  refine wpAny_call ?_
  k_dflt (refine' code_def (binds := [(Str.ofString "value", .ref v), (Str.ofString "name", nv)]) ?k1 ?k2 ?k3 ?k4 ?k5 ?kA ?kF ?kK ?k6 ?k7 ?k8 ?k9 ?kB ?_ ?c2 ?c3 ?c4 ?c5; (case kA => exact rfl); (case kF => exact rfl); (case kK => assumption); (case k1 => k_asm); (case k2 => k_asm); (case k3 => k_asm); (case k4 => k_asm); (case k5 => k_asm); (case k6 => k_is); (case k7 => k_is); (case k8 => ktr_room); (case k9 => exact hb _ _ (by k_in) rfl); (case c5 => decide); (case kB => exact locs rfl); (case c2 => exact rfl); (case c3 => exact rfl); (case c4 => exact rfl); k_whole; intro g' L' h' FG' F' N' B' X' T'; (try dsimp only); (try k_lift B'); (try k_fold))

  have hlen : vs.length = as.length := hs.len_eq
  have hstr := strs_mem hs
  have hv1 : 1 ≤ vs.length := by omega
  have hv3 : vs.length ≤ 3 := by omega
  k_steps
  refine unhold ?_
  refine ListComp_T (F₀ := by k_asm) (by with_unfolding_all rfl) (by decide) (by rfl) (by decide) (by rfl) ?_
  k_steps
  refine unhold ?_
  rename Fr _ _ _ _ => F7
  rename News _ _ _ _ => N7
  refine SrcT.mk (its := vs) rfl F7 N7 (SrcTAt.made (by k_mem)) (by rw [sizeLine_eq]; omega) (fun g => ?_)
  refine rest_gen (fun i y => y = .bool true) ?_ ?_
  · intro i v I oI C oC D m₂ ys h tk E' hi hv hyl hC hx F' N' off ne
    rw [List.getElem?_toArray] at hv
    obtain ⟨x, t, rfl⟩ := hstr v (List.mem_of_getElem? hv)
    k_steps
    rename Fr _ _ _ _ => F8
    rename News _ _ _ _ => N8
    exact LCg.CompEnd.intro F8 N8 _ (fun p hp => hp) off (SrcTAt.made (by k_mem)) ⟨rfl, rfl⟩
  · intro ys hl hr D h tk F' N' off
    rcases trues_of (by omega) (by omega) hr with rfl | rfl | rfl
    all_goals
      k_steps
      refine unhold ?_
      rename Fr _ _ _ _ => F9
      rename News _ _ _ _ => N9
      refine join_tuple (items := vs.toArray) (ys := as) ⟨_, (N9 (v, tupO vs) (by k_mem)).1, rfl, _, rfl⟩ (by assumption) hj ?_
      intro t' k'
      k_steps
    all_goals first | (rename Fr h₀ L _ _ => F2; rename News h₀ L _ _ => N2; exact ret _ _ _ F2 (news_of N2 (by ((repeat (refine List.forall_mem_cons.mpr ⟨(by repeat (first | exact List.Mem.head _ | refine List.Mem.tail _ ?_)), ?_⟩)); (intro p hp; repeat (first | exact hp | refine List.Mem.tail _ ?_))))))
end


section
open PySem.Calls PyProof.Rows.LCg
variable {prog : Program} {w : World} {A : Around} {E : Value → Shared → Prop} {s : Shared} {h₀ : Heap} {L : Addr} {m : Str → Option Value} {env : Env}
theorem rest_st {elt : Expr} {x : Str} {scope : Scope} {cl : List (Str × Addr)} {S : List (Addr × Obj) → Prop} {P : Nat → Value → Prop} {Fin : List Value → List (Addr × Obj) → Prop} {news : List (Addr × Obj)} {n : Nat} (Inv : List (Addr × Obj) → Prop) (Rel : Nat → Value → Prop)
    (turn : ∀ i v I oI C oC D m₂ ys nw h tk (E' : Value → Shared → Prop), i < n → P i v → ys.length = i → Inv nw → NsObj oC m₂ → m₂ x = some v → Fr h₀ L h m → News h₀ L h ((I, oI) :: (C, oC) :: (D, lst ys) :: nw) → Off3 I C D nw → ((@Ne Nat I C) ∧ (@Ne Nat I D) ∧ (@Ne Nat C D)) →
      wpAny (model prog w) A (eval elt (compEnvC scope cl C env)) (CompEnd h₀ L m { s with heap := h, toks := tk } I oI C oC D (lst ys) S (fun y news' => Inv news' ∧ Rel i y)) E' { s with heap := h, toks := tk })
    (fin : ∀ ys nw, ys.length = n → (∀ i y, ys[i]? = some y → Rel i y) → Inv nw → Fin ys nw) (h0 : Inv news) : CompRest prog w A h₀ L m env elt x scope cl s S P Fin n 0 [] news := by
  have key : ∀ (j i : Nat) (ys : List Value) (nw : List (Addr × Obj)), i + j = n → ys.length = i → (∀ k y, ys[k]? = some y → Rel k y) → Inv nw → CompRest prog w A h₀ L m env elt x scope cl s S P Fin j i ys nw := by
    intro j
    induction j with
    | zero =>
      intro i ys nw hi hl hy hv
      exact CompRest.zero (fin ys nw (by omega) hy hv)
    | succ j ih =>
      intro i ys nw hi hl hy hv
      refine CompRest.succ ?_
      intro v I oI C oC D m₂ h tk E' hp hC hx F N off ne
      refine wpAny_mono (turn i v I oI C oC D m₂ ys nw h tk E' (by omega) hp hl hv hC hx F N off ne) (fun y s₂ hq => ?_) fun _ _ e => e
      obtain ⟨h', tk', nw', e, F', N', off', hS, hn, hr⟩ := hq
      refine ⟨h', tk', nw', e, F', N', off', hS, ?_⟩
      refine ih (i + 1) _ nw' (by omega) (by rw [List.length_append, hl]; rfl) ?_ hn
      intro k y' hk
      rcases Nat.lt_or_ge k ys.length with hlt | hge
      · rw [List.getElem?_append_left hlt] at hk
        exact hy k y' hk
      · rw [List.getElem?_append_right hge] at hk
        rcases Nat.eq_zero_or_pos (k - ys.length) with h0 | h0
        · rw [h0] at hk
          cases hk
          have : k = i := by omega
          subst this
          exact hr
        · rw [List.getElem?_eq_none (by rw [List.length_singleton]; omega)] at hk
          cases hk
  exact key n 0 [] news (by omega) rfl (fun _ _ h => by cases h) h0
end
theorem pick3 {prog : Program} {w : World} {A : Around} {E : Value → Shared → Prop} {s : Shared} {value slice : PySem.Expr} {h₀ : Heap} {L l : Addr} {a b c : Value} {news : List (Addr × Obj)} {i : Int} {u : Tok} {Q : Value → Shared → Prop}
    (N : News h₀ L s.heap news) (hm : (l, ({ cls := .type "tuple", data := .seq [a, b, c].toArray } : Obj)) ∈ news) (h0 : 0 ≤ i) (h1 : i < 3)
    (hs : subscripted slice false (.ref l) (.int i u) = operate [.ref l, .int i u] (getItem (.ref l) (.int i u))) (ha : Q a s) (hb : Q b s) (hc : Q c s) : wpAny (model prog w) A (subscriptTail value slice (.ref l) (.int i u)) Q E s :=
  pick_tup ⟨_, (N _ hm).1, rfl, _, rfl⟩ h0 h1 (Int.lt_trans h1 (by decide)) (fun y hy => by
    rcases List.mem_cons.mp (List.mem_of_getElem? hy) with rfl | m
    · exact ha
    rcases List.mem_cons.mp m with rfl | m
    · exact hb
    · rw [List.mem_singleton.mp m]; exact hc) hs
def ScrV (y : Value) : Prop := ∃ x t, y = Value.str x t ∧ x ∈ scr
theorem pick_scr {prog : Program} {w : World} {A : Around} {E : Value → Shared → Prop} {s : Shared} {value slice : PySem.Expr} {K : Frag} {vs : List Value} {n : Nat} {d : Option Addr} {sl : Array (Option Value)} {l : Addr} {i m : Int} {u : Tok} {Q : Value → Shared → Prop}
    (X : K.In s.heap) (e : K.lookup l = some { cls := .type "tuple", dict := d, data := .seq vs.toArray n, slots := sl }) (hv : ∀ y ∈ vs, ScrV y) (h0 : 0 ≤ i) (h1 : i < m) (hl : lenOk m vs = true)
    (hs : subscripted slice false (.ref l) (.int i u) = operate [.ref l, .int i u] (getItem (.ref l) (.int i u))) (h : ∀ x t, x ∈ scr → Q (.str x t) s) : wpAny (model prog w) A (subscriptTail value slice (.ref l) (.int i u)) Q E s :=
  pick_K X e hv h0 h1 hl hs (fun y ⟨x, t, e, m⟩ => e ▸ h x t m)
theorem scrV_all {t1 t2 t3 : Tok} : ∀ y ∈ [Value.str (Str.ofString "Latn") t1, .str (Str.ofString "Grek") t2, .str (Str.ofString "Zzzz") t3], ScrV y :=
  List.forall_mem_cons.mpr ⟨⟨_, _, rfl, .head _⟩, List.forall_mem_cons.mpr ⟨⟨_, _, rfl, .tail _ (.head _)⟩, List.forall_mem_cons.mpr ⟨⟨_, _, rfl, .tail _ (.tail _ (.head _))⟩, List.forall_mem_nil _⟩⟩⟩
theorem strV_all {t : Tok} : ∀ y ∈ [Value.ref 93, .ref 94, .ref 95, .ref 96, .ref 97, .ref 98, .bytes #[49, 50] t, .ref 99], StrV y := by
  intro y hy
  rcases List.mem_append.mp (show y ∈ [Value.ref 93, .ref 94, .ref 95, .ref 96, .ref 97, .ref 98] ++ [.bytes #[49, 50] t, .ref 99] from hy) with h | h
  · obtain ⟨i, hi, rfl⟩ := List.mem_map.mp (show y ∈ [93, 94, 95, 96, 97, 98].map Value.ref from h)
    exact .inl ⟨i, List.mem_append_left [99] hi, rfl⟩
  rcases List.mem_cons.mp h with rfl | h
  · exact .inr ⟨_, rfl⟩
  · rw [List.mem_singleton.mp h]
    exact .inl ⟨_, by decide, rfl⟩
theorem strV_ok {x : Addr} {X : Obj} {y : Value} (h : StrV y) : OtherV x X y none := by
  rcases h with ⟨i, hi, rfl⟩ | ⟨t, rfl⟩
  · exact .top i hi
  · exact .bytes t
theorem strs_rel {ys : List Value} (hr : ∀ (i : Nat) y, ys[i]? = some y → ∃ x t, x ∈ scr ∧ y = Value.str x t) : ∀ y ∈ ys, ∃ x t, x ∈ scr ∧ y = Value.str x t := by
  intro y hy
  obtain ⟨i, hi⟩ := List.getElem?_of_mem hy
  exact hr i y hi

local macro_rules | `(tactic| walk_at "subscriptTail") => `(tactic| (k_here; with_reducible apply pick3; (iterate 4 walk_at "zz e"); with_unfolding_all rfl))
theorem oth4_h {ts : Tok} (B : Below A₀ base outer h₀) (F : Fr h₀ L s.heap m) (X : (hd.heap_39 w.params).In h₀) (N : News h₀ L s.heap ((tp, o) :: (np, nums) :: rest)) (T : Top hd.view_39 lo mean mg mb h₀) (hk : cs.kind = .function) (hd' : dp + 30 < recursionLimit) (hu : un + 180 < cLine)
  (h2 : ∀ p ∈ rest, p.1 ≠ tp) (hne : @Ne Nat np tp) (hT : TapeO tp np o) (hN : NumsO nums)
  (ret : ∀ (r x : Addr) (X : Obj) (v : Value) (wd : Option Str) (t : Tok) o' h' tk', Fr h₀ L h' m → News h₀ L h' ((r, tupO [v, retW wd t]) :: (x, X) :: (tp, o') :: (np, nums) :: rest) → @Ne Nat r tp → @Ne Nat x tp → OtherV x X v wd → TapeO tp np o' → Q (.ref r) { s with heap := h', toks := tk' })
  : wpAny (model PySem.Challenge.rw_pq1295_01.row.prog w) (ktrTop dp un gd cn cs L a ccd cl outer) (call (.ref 132) [.ref tp, .int 4 ts]) Q E s := by
  revert X
  k_fill
  intro X
  refine wpAny_call ?_
  k_dflt (refine' code_defC (binds := [(Str.ofString "tape", .ref tp), (Str.ofString "sort", .int 4 ts)]) ?k1 ?k2 ?k3 ?k4 ?k5 ?kA ?kF ?kK ?k6 ?k7 ?k8 ?k9 ?kB ?kD ?_ ?c2 ?c3 ?c4; (case kA => exact rfl); (case kF => exact rfl); (case kK => assumption); (case k1 => k_asm); (case k2 => k_asm); (case k3 => k_asm); (case k4 => k_asm); (case k5 => k_asm); (case k6 => k_is); (case k7 => k_is); (case k8 => ktr_room); (case k9 => exact BindsTo.of_eq rfl); (case kB => exact rfl); (case kD => decide +kernel); (case c2 => exact rfl); (case c3 => exact rfl); (case c4 => exact rfl); k_whole; intro g' L' h' tk' cells' FG' F' N' Y' B' X' T' l1; (try k_lt l1); k_cells Y'; (try simp only [List.cons_append, List.nil_append] at N'); (try dsimp only); (try k_lift B'); (try k_fold))

  k_steps
  all_goals first | (rename Fr h₀ L _ _ => F2; rename News h₀ L _ _ => N2; first | (exact ret _ _ (tupO [.bool true, .str (Str.ofString "Y") _]) (.bool true) (some (if true = true then Str.ofString "Y" else Str.ofString "N")) _ _ _ _ F2 (news_of N2 (by ((repeat (refine List.forall_mem_cons.mpr ⟨(by repeat (first | exact List.Mem.head _ | refine List.Mem.tail _ ?_)), ?_⟩)); (intro p hp; repeat (first | exact hp | refine List.Mem.tail _ ?_))))) (by first | exact Nat.ne_of_gt (And.left (by with_reducible assumption)) | exact Nat.ne_of_gt (And.left (And.right (by with_reducible assumption))) | exact Nat.ne_of_gt (And.left (And.right (And.right (by with_reducible assumption)))) | exact Nat.ne_of_gt (And.left (And.right (And.right (And.right (by with_reducible assumption))))) | exact Nat.ne_of_gt (And.left (And.right (And.right (And.right (And.right (by with_reducible assumption)))))) | exact Nat.ne_of_gt (And.left (And.right (And.right (And.right (And.right (And.right (by with_reducible assumption))))))) | exact Nat.ne_of_gt (And.left (And.right (And.right (And.right (And.right (And.right (And.right (by with_reducible assumption)))))))) | exact Nat.ne_of_gt (And.left (And.right (And.right (And.right (And.right (And.right (And.right (And.right (by with_reducible assumption))))))))) | exact Nat.ne_of_gt (And.left (And.right (And.right (And.right (And.right (And.right (And.right (And.right (And.right (by with_reducible assumption)))))))))) | (refine neN ?_; omega)) (by first | exact Nat.ne_of_gt (And.left (by with_reducible assumption)) | exact Nat.ne_of_gt (And.left (And.right (by with_reducible assumption))) | exact Nat.ne_of_gt (And.left (And.right (And.right (by with_reducible assumption)))) | exact Nat.ne_of_gt (And.left (And.right (And.right (And.right (by with_reducible assumption))))) | exact Nat.ne_of_gt (And.left (And.right (And.right (And.right (And.right (by with_reducible assumption)))))) | exact Nat.ne_of_gt (And.left (And.right (And.right (And.right (And.right (And.right (by with_reducible assumption))))))) | exact Nat.ne_of_gt (And.left (And.right (And.right (And.right (And.right (And.right (And.right (by with_reducible assumption)))))))) | exact Nat.ne_of_gt (And.left (And.right (And.right (And.right (And.right (And.right (And.right (And.right (by with_reducible assumption))))))))) | exact Nat.ne_of_gt (And.left (And.right (And.right (And.right (And.right (And.right (And.right (And.right (And.right (by with_reducible assumption)))))))))) | (refine neN ?_; omega)) (.bool true) (by assumption)) | (exact ret _ _ (tupO [.bool false, .str (Str.ofString "N") _]) (.bool false) (some (if false = true then Str.ofString "Y" else Str.ofString "N")) _ _ _ _ F2 (news_of N2 (by ((repeat (refine List.forall_mem_cons.mpr ⟨(by repeat (first | exact List.Mem.head _ | refine List.Mem.tail _ ?_)), ?_⟩)); (intro p hp; repeat (first | exact hp | refine List.Mem.tail _ ?_))))) (by first | exact Nat.ne_of_gt (And.left (by with_reducible assumption)) | exact Nat.ne_of_gt (And.left (And.right (by with_reducible assumption))) | exact Nat.ne_of_gt (And.left (And.right (And.right (by with_reducible assumption)))) | exact Nat.ne_of_gt (And.left (And.right (And.right (And.right (by with_reducible assumption))))) | exact Nat.ne_of_gt (And.left (And.right (And.right (And.right (And.right (by with_reducible assumption)))))) | exact Nat.ne_of_gt (And.left (And.right (And.right (And.right (And.right (And.right (by with_reducible assumption))))))) | exact Nat.ne_of_gt (And.left (And.right (And.right (And.right (And.right (And.right (And.right (by with_reducible assumption)))))))) | exact Nat.ne_of_gt (And.left (And.right (And.right (And.right (And.right (And.right (And.right (And.right (by with_reducible assumption))))))))) | exact Nat.ne_of_gt (And.left (And.right (And.right (And.right (And.right (And.right (And.right (And.right (And.right (by with_reducible assumption)))))))))) | (refine neN ?_; omega)) (by first | exact Nat.ne_of_gt (And.left (by with_reducible assumption)) | exact Nat.ne_of_gt (And.left (And.right (by with_reducible assumption))) | exact Nat.ne_of_gt (And.left (And.right (And.right (by with_reducible assumption)))) | exact Nat.ne_of_gt (And.left (And.right (And.right (And.right (by with_reducible assumption))))) | exact Nat.ne_of_gt (And.left (And.right (And.right (And.right (And.right (by with_reducible assumption)))))) | exact Nat.ne_of_gt (And.left (And.right (And.right (And.right (And.right (And.right (by with_reducible assumption))))))) | exact Nat.ne_of_gt (And.left (And.right (And.right (And.right (And.right (And.right (And.right (by with_reducible assumption)))))))) | exact Nat.ne_of_gt (And.left (And.right (And.right (And.right (And.right (And.right (And.right (And.right (by with_reducible assumption))))))))) | exact Nat.ne_of_gt (And.left (And.right (And.right (And.right (And.right (And.right (And.right (And.right (And.right (by with_reducible assumption)))))))))) | (refine neN ?_; omega)) (.bool false) (by assumption)) | (exact ret _ _ (tupO [.none, .str (Str.ofString "None") _]) .none (some (Str.ofString "None")) _ _ _ _ F2 (news_of N2 (by ((repeat (refine List.forall_mem_cons.mpr ⟨(by repeat (first | exact List.Mem.head _ | refine List.Mem.tail _ ?_)), ?_⟩)); (intro p hp; repeat (first | exact hp | refine List.Mem.tail _ ?_))))) (by first | exact Nat.ne_of_gt (And.left (by with_reducible assumption)) | exact Nat.ne_of_gt (And.left (And.right (by with_reducible assumption))) | exact Nat.ne_of_gt (And.left (And.right (And.right (by with_reducible assumption)))) | exact Nat.ne_of_gt (And.left (And.right (And.right (And.right (by with_reducible assumption))))) | exact Nat.ne_of_gt (And.left (And.right (And.right (And.right (And.right (by with_reducible assumption)))))) | exact Nat.ne_of_gt (And.left (And.right (And.right (And.right (And.right (And.right (by with_reducible assumption))))))) | exact Nat.ne_of_gt (And.left (And.right (And.right (And.right (And.right (And.right (And.right (by with_reducible assumption)))))))) | exact Nat.ne_of_gt (And.left (And.right (And.right (And.right (And.right (And.right (And.right (And.right (by with_reducible assumption))))))))) | exact Nat.ne_of_gt (And.left (And.right (And.right (And.right (And.right (And.right (And.right (And.right (And.right (by with_reducible assumption)))))))))) | (refine neN ?_; omega)) (by first | exact Nat.ne_of_gt (And.left (by with_reducible assumption)) | exact Nat.ne_of_gt (And.left (And.right (by with_reducible assumption))) | exact Nat.ne_of_gt (And.left (And.right (And.right (by with_reducible assumption)))) | exact Nat.ne_of_gt (And.left (And.right (And.right (And.right (by with_reducible assumption))))) | exact Nat.ne_of_gt (And.left (And.right (And.right (And.right (And.right (by with_reducible assumption)))))) | exact Nat.ne_of_gt (And.left (And.right (And.right (And.right (And.right (And.right (by with_reducible assumption))))))) | exact Nat.ne_of_gt (And.left (And.right (And.right (And.right (And.right (And.right (And.right (by with_reducible assumption)))))))) | exact Nat.ne_of_gt (And.left (And.right (And.right (And.right (And.right (And.right (And.right (And.right (by with_reducible assumption))))))))) | exact Nat.ne_of_gt (And.left (And.right (And.right (And.right (And.right (And.right (And.right (And.right (And.right (by with_reducible assumption)))))))))) | (refine neN ?_; omega)) .none (by assumption)))

local macro_rules | `(tactic| walk_at "subscriptTail Name Call ref int") => `(tactic| (k_here; with_reducible apply pick_scr; k_dflt k_in; k_is; exact scrV_all; (iterate 3 walk_at "zz e"); with_unfolding_all rfl; intros))
theorem oth5_h {ts : Tok} (B : Below A₀ base outer h₀) (F : Fr h₀ L s.heap m) (X : (hd.heap_39 w.params).In h₀) (N : News h₀ L s.heap ((tp, o) :: (np, nums) :: rest)) (T : Top hd.view_39 lo mean mg mb h₀) (hk : cs.kind = .function) (hd' : dp + 30 < recursionLimit) (hu : un + 180 < cLine)
  (h2 : ∀ p ∈ rest, p.1 ≠ tp) (hne : @Ne Nat np tp) (hT : TapeO tp np o) (hN : NumsO nums)
  (ret : ∀ (r x : Addr) (X : Obj) (v : Value) (wd : Option Str) (t : Tok) o' h' tk', Fr h₀ L h' m → News h₀ L h' ((r, tupO [v, retW wd t]) :: (x, X) :: (tp, o') :: (np, nums) :: rest) → @Ne Nat r tp → @Ne Nat x tp → OtherV x X v wd → TapeO tp np o' → Q (.ref r) { s with heap := h', toks := tk' })
  : wpAny (model PySem.Challenge.rw_pq1295_01.row.prog w) (ktrTop dp un gd cn cs L a ccd cl outer) (call (.ref 132) [.ref tp, .int 5 ts]) Q E s := by
  revert X
  k_fill
  intro X
  refine wpAny_call ?_
  k_dflt (refine' code_defC (binds := [(Str.ofString "tape", .ref tp), (Str.ofString "sort", .int 5 ts)]) ?k1 ?k2 ?k3 ?k4 ?k5 ?kA ?kF ?kK ?k6 ?k7 ?k8 ?k9 ?kB ?kD ?_ ?c2 ?c3 ?c4; (case kA => exact rfl); (case kF => exact rfl); (case kK => assumption); (case k1 => k_asm); (case k2 => k_asm); (case k3 => k_asm); (case k4 => k_asm); (case k5 => k_asm); (case k6 => k_is); (case k7 => k_is); (case k8 => ktr_room); (case k9 => exact BindsTo.of_eq rfl); (case kB => exact rfl); (case kD => decide +kernel); (case c2 => exact rfl); (case c3 => exact rfl); (case c4 => exact rfl); k_whole; intro g' L' h' tk' cells' FG' F' N' Y' B' X' T' l1; (try k_lt l1); k_cells Y'; (try simp only [List.cons_append, List.nil_append] at N'); (try dsimp only); (try k_lift B'); (try k_fold))

  k_steps
  all_goals first | (rename Fr h₀ L _ _ => F2; rename News h₀ L _ _ => N2; first | (exact ret _ _ (tupO [.str _ _, .str _ _]) (.str _ _) (some _) _ _ _ _ F2 (news_of N2 (by ((repeat (refine List.forall_mem_cons.mpr ⟨(by repeat (first | exact List.Mem.head _ | refine List.Mem.tail _ ?_)), ?_⟩)); (intro p hp; repeat (first | exact hp | refine List.Mem.tail _ ?_))))) (by first | exact Nat.ne_of_gt (And.left (by with_reducible assumption)) | exact Nat.ne_of_gt (And.left (And.right (by with_reducible assumption))) | exact Nat.ne_of_gt (And.left (And.right (And.right (by with_reducible assumption)))) | exact Nat.ne_of_gt (And.left (And.right (And.right (And.right (by with_reducible assumption))))) | exact Nat.ne_of_gt (And.left (And.right (And.right (And.right (And.right (by with_reducible assumption)))))) | exact Nat.ne_of_gt (And.left (And.right (And.right (And.right (And.right (And.right (by with_reducible assumption))))))) | exact Nat.ne_of_gt (And.left (And.right (And.right (And.right (And.right (And.right (And.right (by with_reducible assumption)))))))) | exact Nat.ne_of_gt (And.left (And.right (And.right (And.right (And.right (And.right (And.right (And.right (by with_reducible assumption))))))))) | exact Nat.ne_of_gt (And.left (And.right (And.right (And.right (And.right (And.right (And.right (And.right (And.right (by with_reducible assumption)))))))))) | (refine neN ?_; omega)) (by first | exact Nat.ne_of_gt (And.left (by with_reducible assumption)) | exact Nat.ne_of_gt (And.left (And.right (by with_reducible assumption))) | exact Nat.ne_of_gt (And.left (And.right (And.right (by with_reducible assumption)))) | exact Nat.ne_of_gt (And.left (And.right (And.right (And.right (by with_reducible assumption))))) | exact Nat.ne_of_gt (And.left (And.right (And.right (And.right (And.right (by with_reducible assumption)))))) | exact Nat.ne_of_gt (And.left (And.right (And.right (And.right (And.right (And.right (by with_reducible assumption))))))) | exact Nat.ne_of_gt (And.left (And.right (And.right (And.right (And.right (And.right (And.right (by with_reducible assumption)))))))) | exact Nat.ne_of_gt (And.left (And.right (And.right (And.right (And.right (And.right (And.right (And.right (by with_reducible assumption))))))))) | exact Nat.ne_of_gt (And.left (And.right (And.right (And.right (And.right (And.right (And.right (And.right (And.right (by with_reducible assumption)))))))))) | (refine neN ?_; omega)) (.str _ _ (by assumption)) (by assumption)))


theorem rg_small {d : Int} (h0 : 0 ≤ d) (h1 : d < 3) : Builtin.Range.small 0 (1 + d) 1 = true := by
  obtain ⟨k, rfl⟩ := Int.eq_ofNat_of_zero_le h0
  have key : ∀ n : Fin 3, Builtin.Range.small 0 (1 + ((n.val : Nat) : Int)) 1 = true := by decide +kernel
  exact key ⟨k, Int.ofNat_lt.mp h1⟩
theorem rg_size {d : Int} (h0 : 0 ≤ d) (h1 : d < 3) : Builtin.Range.rangeSize 0 (1 + d) 1 = (((1 + d).toNat : Nat) : Int) := by
  obtain ⟨k, rfl⟩ := Int.eq_ofNat_of_zero_le h0
  have key : ∀ n : Fin 3, Builtin.Range.rangeSize 0 (1 + ((n.val : Nat) : Int)) 1 = (((1 + ((n.val : Nat) : Int)).toNat : Nat) : Int) := by decide +kernel
  exact key ⟨k, Int.ofNat_lt.mp h1⟩
theorem strs_scr : ∀ {ys : List Value}, (∀ y ∈ ys, ∃ x t, x ∈ scr ∧ y = Value.str x t) → ∃ as, StrsAre ys as ∧ as.length = ys.length ∧ ∀ a ∈ as, a ∈ scr
  | [], _ => ⟨[], .nil, rfl, List.forall_mem_nil _⟩
  | y :: ys, h => by
    obtain ⟨as, hs, hl, ha⟩ := strs_scr (ys := ys) fun z hz => h z (.tail _ hz)
    obtain ⟨x, t, hx, rfl⟩ := h y (.head _)
    exact ⟨x :: as, .cons _ _ hs, by rw [List.length_cons, List.length_cons, hl], List.forall_mem_cons.mpr ⟨hx, ha⟩⟩
theorem scr_ok {l : List Str} (h : ∀ a ∈ l, a ∈ scr) (h3 : l.length ≤ 3) : (l.map (·.length)).sum + l.length * (Str.ofString " ").length ≤ 16777216 := by
  have e1 : (Str.ofString " ").length = 1 := by decide +kernel
  rw [scr_sum h, e1, Nat.mul_one]
  exact Nat.le_trans (Nat.add_le_add (Nat.mul_le_mul_left 4 h3) h3) (by decide)
theorem tape_ne {h₀ : Heap} {L : Addr} {h : Heap} {l : List (Addr × Obj)} {tp np D : Addr} {o : Obj} {ys : List Value} (N : News h₀ L h l) (hT : TapeO tp np o) (h1 : (D, tupO ys) ∈ l) (h2 : (tp, o) ∈ l) : @Ne Nat D tp := by
  rintro rfl
  obtain ⟨i, st, t1, t2, rfl, _⟩ := hT
  have e := (N _ h1).1.symm.trans (N _ h2).1
  injection e with e
  have e2 : Value.type "tuple" = Value.type "list" := congrArg Obj.cls e
  injection e2 with e2
  exact absurd e2 (by decide)
theorem rg_le {d : Int} (h1 : d < 3) : (1 + d).toNat ≤ sizeLine := by
  rw [sizeLine_eq]
  exact Int.toNat_le.mpr (Int.le_trans (Int.add_le_add_left (Int.le_of_lt h1) 1) (by decide))
section
local macro_rules | `(tactic| walk_at "call builtin:str.join") => `(tactic| refine hold ?_)
local macro_rules | `(tactic| walk_at "eval ListComp") => `(tactic| refine hold ?_)
local macro_rules | `(tactic| walk_at "exec Assign cons ListComp") => `(tactic| refine hold ?_)
local macro_rules | `(tactic| walk_at "eval Name") => `(tactic| (k_here; (with_reducible show wpAny _ _ (eval (Expr.Name _ _) (compEnvC _ _ _ _)) _ _ _); k_dflt (refine LCgL.ld_global (by k_asm) (by k_asm) (by k_asm) (by k_is) ?_)))
local macro_rules | `(tactic| walk_at "CompSrc") => `(tactic| refine hold ?_)
theorem oth6_h {ts : Tok} (B : Below A₀ base outer h₀) (F : Fr h₀ L s.heap m) (X : (hd.heap_39 w.params).In h₀) (N : News h₀ L s.heap ((tp, o) :: (np, nums) :: rest)) (T : Top hd.view_39 lo mean mg mb h₀) (hk : cs.kind = .function) (hd' : dp + 30 < recursionLimit) (hu : un + 180 < cLine)
  (h2 : ∀ p ∈ rest, p.1 ≠ tp) (hne : @Ne Nat np tp) (hT : TapeO tp np o) (hN : NumsO nums)
  (ret : ∀ (r x : Addr) (X : Obj) (v : Value) (wd : Option Str) (t : Tok) o' h' tk', Fr h₀ L h' m → News h₀ L h' ((r, tupO [v, retW wd t]) :: (x, X) :: (tp, o') :: (np, nums) :: rest) → @Ne Nat r tp → @Ne Nat x tp → OtherV x X v wd → TapeO tp np o' → Q (.ref r) { s with heap := h', toks := tk' })
  : wpAny (model PySem.Challenge.rw_pq1295_01.row.prog w) (ktrTop dp un gd cn cs L a ccd cl outer) (call (.ref 132) [.ref tp, .int 6 ts]) Q E s := by
  revert X
  k_fill
  intro X
  refine wpAny_call ?_
  k_dflt (refine' code_defC (binds := [(Str.ofString "tape", .ref tp), (Str.ofString "sort", .int 6 ts)]) ?k1 ?k2 ?k3 ?k4 ?k5 ?kA ?kF ?kK ?k6 ?k7 ?k8 ?k9 ?kB ?kD ?_ ?c2 ?c3 ?c4; (case kA => exact rfl); (case kF => exact rfl); (case kK => assumption); (case k1 => k_asm); (case k2 => k_asm); (case k3 => k_asm); (case k4 => k_asm); (case k5 => k_asm); (case k6 => k_is); (case k7 => k_is); (case k8 => ktr_room); (case k9 => exact BindsTo.of_eq rfl); (case kB => exact rfl); (case kD => decide +kernel); (case c2 => exact rfl); (case c3 => exact rfl); (case c4 => exact rfl); k_whole; intro g' L' h' tk' cells' FG' F' N' Y' B' X' T' l1; (try k_lt l1); (have hY := CellsAre.one Y'; obtain ⟨oc', hE', d1'⟩ := hY; subst hE'; clear Y'); (try simp only [List.cons_append, List.nil_append] at N'); (try dsimp only); (try k_lift B'); (try k_fold))

  k_steps
  refine unhold ?_
  refine LCg.Assign_ListComp_U (F₀ := by k_asm) (by rfl) (by with_unfolding_all rfl) (by with_unfolding_all rfl) (by decide) (by rfl) (by decide) (by rfl) (by rfl) (by rfl) ?_
  k_steps
  refine unhold ?_
  rename IsRange _ _ _ _ _ _ _ _ => hr
  rename Fr _ _ _ _ => F1
  rename News _ _ _ _ => N1
  refine LCg.CompSrc.range rfl F1 N1 hr (rg_small (by assumption) (by assumption)) (rg_size (by assumption) (by assumption)) (rg_le (by assumption)) (fun g => ?_)
  refine rest_st (fun nw => ∃ o', TapeO tp np o' ∧ nw = (L' + 1, oc') :: (tp, o') :: (np, nums) :: rest) (fun i y => ∃ x t, x ∈ scr ∧ y = .str x t) ?_ ?_ ⟨_, by assumption, rfl⟩
  · intro i v I oI C oC D m₂ ys nw h tk E' hi hv hyl hInv hC hx F' N' off ne
    obtain ⟨o1, hT1, rfl⟩ := hInv
    clear hr F1 N1
    have z := off.2.1
    have z1 : @Ne Nat tp I := z.1
    have z2 : @Ne Nat tp C := z.2.1
    have z3 : @Ne Nat tp D := z.2.2
    clear z
    k_steps
    all_goals
      rename Fr _ _ _ _ => F8
      rename News _ _ _ _ => N8
      exact LCg.CompEnd.intro F8 N8 _ (fun p hp => hp) off trivial ⟨⟨_, by assumption, rfl⟩, _, _, (by assumption), rfl⟩
  · intro ys nw hl hr2 hInv D h tk F' N' off
    obtain ⟨o1, hT1, rfl⟩ := hInv
    clear hr F1 N1
    try k_fold
    have z3 : @Ne Nat tp D := off.2.1
    obtain ⟨as, hs, hal, has⟩ := strs_scr (strs_rel hr2)
    have hal1 : 1 ≤ as.length := by omega
    have hal3 : as.length ≤ 3 := by omega
    k_steps
    refine unhold ?_
    rename News _ _ _ _ => N9
    refine join_list (items := ys.toArray) (News.isList N9 (by k_mem)) hs (scr_ok has hal3) ?_
    intro t' k'
    k_steps
    rename Fr h₀ L _ _ => F2
    rename News h₀ L _ _ => N2
    exact ret _ _ (tupO ys) (.ref _) (some (Txt.join (Str.ofString " ") as)) _ _ _ _ F2 (news_of N2 (by ((repeat (refine List.forall_mem_cons.mpr ⟨(by repeat (first | exact List.Mem.head _ | refine List.Mem.tail _ ?_)), ?_⟩)); (intro p hp; repeat (first | exact hp | refine List.Mem.tail _ ?_))))) (by first | exact Nat.ne_of_gt (And.left (by with_reducible assumption)) | exact Nat.ne_of_gt (And.left (And.right (by with_reducible assumption))) | exact Nat.ne_of_gt (And.left (And.right (And.right (by with_reducible assumption)))) | exact Nat.ne_of_gt (And.left (And.right (And.right (And.right (by with_reducible assumption))))) | exact Nat.ne_of_gt (And.left (And.right (And.right (And.right (And.right (by with_reducible assumption)))))) | exact Nat.ne_of_gt (And.left (And.right (And.right (And.right (And.right (And.right (by with_reducible assumption))))))) | exact Nat.ne_of_gt (And.left (And.right (And.right (And.right (And.right (And.right (And.right (by with_reducible assumption)))))))) | exact Nat.ne_of_gt (And.left (And.right (And.right (And.right (And.right (And.right (And.right (And.right (by with_reducible assumption))))))))) | exact Nat.ne_of_gt (And.left (And.right (And.right (And.right (And.right (And.right (And.right (And.right (And.right (by with_reducible assumption)))))))))) | (refine neN ?_; omega)) (tape_ne (ys := ys) N2 hT1 (by k_mem) (by k_mem)) (.tup ys as rfl hs hal1 hal3 has) (by assumption)
end

local macro_rules | `(tactic| walk_at "subscriptTail Name Call ref int") => `(tactic| (k_here; with_reducible apply pick_K; k_dflt k_in; k_is; exact strV_all; (iterate 3 walk_at "zz e"); with_unfolding_all rfl; intros))
theorem oth7_h {ts : Tok} (B : Below A₀ base outer h₀) (F : Fr h₀ L s.heap m) (X : (hd.heap_39 w.params).In h₀) (N : News h₀ L s.heap ((tp, o) :: (np, nums) :: rest)) (T : Top hd.view_39 lo mean mg mb h₀) (hk : cs.kind = .function) (hd' : dp + 30 < recursionLimit) (hu : un + 180 < cLine)
  (h2 : ∀ p ∈ rest, p.1 ≠ tp) (hne : @Ne Nat np tp) (hT : TapeO tp np o) (hN : NumsO nums)
  (ret : ∀ (r x : Addr) (X : Obj) (v : Value) (wd : Option Str) (t : Tok) o' h' tk', Fr h₀ L h' m → News h₀ L h' ((r, tupO [v, retW wd t]) :: (x, X) :: (tp, o') :: (np, nums) :: rest) → @Ne Nat r tp → @Ne Nat x tp → OtherV x X v wd → TapeO tp np o' → Q (.ref r) { s with heap := h', toks := tk' })
  : wpAny (model PySem.Challenge.rw_pq1295_01.row.prog w) (ktrTop dp un gd cn cs L a ccd cl outer) (call (.ref 132) [.ref tp, .int 7 ts]) Q E s := by
  revert X
  k_fill
  intro X
  refine wpAny_call ?_
  k_dflt (refine' code_defC (binds := [(Str.ofString "tape", .ref tp), (Str.ofString "sort", .int 7 ts)]) ?k1 ?k2 ?k3 ?k4 ?k5 ?kA ?kF ?kK ?k6 ?k7 ?k8 ?k9 ?kB ?kD ?_ ?c2 ?c3 ?c4; (case kA => exact rfl); (case kF => exact rfl); (case kK => assumption); (case k1 => k_asm); (case k2 => k_asm); (case k3 => k_asm); (case k4 => k_asm); (case k5 => k_asm); (case k6 => k_is); (case k7 => k_is); (case k8 => ktr_room); (case k9 => exact BindsTo.of_eq rfl); (case kB => exact rfl); (case kD => decide +kernel); (case c2 => exact rfl); (case c3 => exact rfl); (case c4 => exact rfl); k_whole; intro g' L' h' tk' cells' FG' F' N' Y' B' X' T' l1; (try k_lt l1); k_cells Y'; (try simp only [List.cons_append, List.nil_append] at N'); (try dsimp only); (try k_lift B'); (try k_fold))

  k_steps
  all_goals first | (rename Fr h₀ L _ _ => F2; rename News h₀ L _ _ => N2; first | (exact ret _ _ (tupO [_, .none]) _ none 0 _ _ _ F2 (news_of N2 (by ((repeat (refine List.forall_mem_cons.mpr ⟨(by repeat (first | exact List.Mem.head _ | refine List.Mem.tail _ ?_)), ?_⟩)); (intro p hp; repeat (first | exact hp | refine List.Mem.tail _ ?_))))) (by first | exact Nat.ne_of_gt (And.left (by with_reducible assumption)) | exact Nat.ne_of_gt (And.left (And.right (by with_reducible assumption))) | exact Nat.ne_of_gt (And.left (And.right (And.right (by with_reducible assumption)))) | exact Nat.ne_of_gt (And.left (And.right (And.right (And.right (by with_reducible assumption))))) | exact Nat.ne_of_gt (And.left (And.right (And.right (And.right (And.right (by with_reducible assumption)))))) | exact Nat.ne_of_gt (And.left (And.right (And.right (And.right (And.right (And.right (by with_reducible assumption))))))) | exact Nat.ne_of_gt (And.left (And.right (And.right (And.right (And.right (And.right (And.right (by with_reducible assumption)))))))) | exact Nat.ne_of_gt (And.left (And.right (And.right (And.right (And.right (And.right (And.right (And.right (by with_reducible assumption))))))))) | exact Nat.ne_of_gt (And.left (And.right (And.right (And.right (And.right (And.right (And.right (And.right (And.right (by with_reducible assumption)))))))))) | (refine neN ?_; omega)) (by first | exact Nat.ne_of_gt (And.left (by with_reducible assumption)) | exact Nat.ne_of_gt (And.left (And.right (by with_reducible assumption))) | exact Nat.ne_of_gt (And.left (And.right (And.right (by with_reducible assumption)))) | exact Nat.ne_of_gt (And.left (And.right (And.right (And.right (by with_reducible assumption))))) | exact Nat.ne_of_gt (And.left (And.right (And.right (And.right (And.right (by with_reducible assumption)))))) | exact Nat.ne_of_gt (And.left (And.right (And.right (And.right (And.right (And.right (by with_reducible assumption))))))) | exact Nat.ne_of_gt (And.left (And.right (And.right (And.right (And.right (And.right (And.right (by with_reducible assumption)))))))) | exact Nat.ne_of_gt (And.left (And.right (And.right (And.right (And.right (And.right (And.right (And.right (by with_reducible assumption))))))))) | exact Nat.ne_of_gt (And.left (And.right (And.right (And.right (And.right (And.right (And.right (And.right (And.right (by with_reducible assumption)))))))))) | (refine neN ?_; omega)) (strV_ok (by assumption)) (by assumption)))

theorem four_eight {n : Nat} (h1 : 4 ≤ n) (h3 : n < 8) : n = 4 ∨ n = 5 ∨ n = 6 ∨ n = 7 := by
  have key : ∀ n : Fin 8, 4 ≤ n.val → n.val = 4 ∨ n.val = 5 ∨ n.val = 6 ∨ n.val = 7 := by decide
  exact key ⟨n, h3⟩ h1
theorem oth_k {nw : Obj → List (Addr × Obj)} {sort : Int} {ts : Tok} (B : Below A₀ base outer h₀) (F : Fr h₀ L s.heap m) (X : (hd.heap_39 w.params).In h₀) (N : News h₀ L s.heap (news)) (T : Top hd.view_39 lo mean mg mb h₀) (hk : cs.kind = .function) (hd' : dp + 30 < recursionLimit) (hu : un + 180 < cLine)
  (U : ∀ o', Upd tp o o' news (nw o')) (hT : TapeO tp np o) (hN : NumsO nums) (hn : (np, nums) ∈ news) (hs0 : 4 ≤ sort) (hs1 : sort < 8)
  (ret0 : ∀ (r x : Addr) (X : Obj) (v : Value) o' h' tk', Fr h₀ L h' m → News h₀ L h' ((r, tupO [v, .none]) :: (x, X) :: nw o') → @Ne Nat r tp → @Ne Nat x tp → OtherV x X v none → TapeO tp np o' → Q (.ref r) { s with heap := h', toks := tk' })
  (ret1 : ∀ (r x : Addr) (X : Obj) (v : Value) (z : Str) (t : Tok) o' h' tk', Fr h₀ L h' m → News h₀ L h' ((r, tupO [v, .str z t]) :: (x, X) :: nw o') → @Ne Nat r tp → @Ne Nat x tp → OtherV x X v (some z) → TapeO tp np o' → numR z = none → z.length ≤ 100 → Q (.ref r) { s with heap := h', toks := tk' }) : wpAny (model PySem.Challenge.rw_pq1295_01.row.prog w) (ktrTop dp un gd cn cs L a ccd cl outer) (call (.ref 132) [.ref tp, .int sort ts]) Q E s := by
  have hne : @Ne Nat tp np := by obtain ⟨_, _, _, _, _, _, _, _, h⟩ := hT; exact h
  obtain ⟨rest, N', h2, hR, hL⟩ := upd_lift N U hn hne
  have key : ∀ (r x : Addr) (X : Obj) (v : Value) (wd : Option Str) (t : Tok) o' h' tk', Fr h₀ L h' m → News h₀ L h' ((r, tupO [v, retW wd t]) :: (x, X) :: (tp, o') :: (np, nums) :: rest) → @Ne Nat r tp → @Ne Nat x tp → OtherV x X v wd → TapeO tp np o' → Q (.ref r) { s with heap := h', toks := tk' } := by
    intro r x X v wd t o' h' tk' F2 N2 n1 n2 ok T2
    cases wd with
    | none => exact ret0 r x X v o' h' tk' F2 (hR _ _ [_, _] N2) n1 n2 ok T2
    | some z => exact ret1 r x X v z t o' h' tk' F2 (hR _ _ [_, _] N2) n1 n2 ok T2 (other_num ok).1 (other_num ok).2
  obtain ⟨k, rfl⟩ := Int.eq_ofNat_of_zero_le (Int.le_trans (by decide) hs0)
  rcases four_eight (Int.ofNat_le.mp hs0) (Int.ofNat_lt.mp hs1) with rfl | rfl | rfl | rfl
  · exact oth4_h B F X N' T hk hd' hu h2 (Ne.symm hne) hT hN key
  · exact oth5_h B F X N' T hk hd' hu h2 (Ne.symm hne) hT hN key
  · exact oth6_h B F X N' T hk hd' hu h2 (Ne.symm hne) hT hN key
  · exact oth7_h B F X N' T hk hd' hu h2 (Ne.symm hne) hT hN key
theorem vtO {x : Addr} {Z : Obj} {v nv : Value} {wd : Option Str} {args : List Value} (B : Below A₀ base outer h₀) (F : Fr h₀ L s.heap m) (X : (hd.heap_39 w.params).In h₀) (N : News h₀ L s.heap (news)) (T : Top hd.view_39 lo mean mg mb h₀) (hk : cs.kind = .function) (hd' : dp + 20 < recursionLimit) (hu : un + 120 < cLine) (hok : OtherV x Z v wd) (hb : Bd86 w args v nv) (hm : (x, Z) ∈ news)
  (ret : ∀ (t : Tok) h' tk', Fr h₀ L h' m → News h₀ L h' news → Q (retW wd t) { s with heap := h', toks := tk' }) : wpAny (model PySem.Challenge.rw_pq1295_01.row.prog w) (ktrTop dp un gd cn cs L a ccd cl outer) (call (.ref 86) args) Q E s := by
  cases hok with
  | bool b => exact vto_bool B F X N T hk hd' hu hb ret
  | none => exact vto_none B F X N T hk hd' hu hb ret
  | str z t h => exact vto_str B F X N T hk hd' hu hb ret
  | bytes t => exact vtsb B F X N T hk hd' hu hb (ret 0)
  | top i h =>
    rcases List.mem_cons.mp h with rfl | h
    · exact vts93 (tv := 0) B F X N T hk hd' hu hb (ret 0)
    rcases List.mem_cons.mp h with rfl | h
    · exact vts94 (tv := 0) B F X N T hk hd' hu hb (ret 0)
    rcases List.mem_cons.mp h with rfl | h
    · exact vts95 (tv := 0) B F X N T hk hd' hu hb (ret 0)
    rcases List.mem_cons.mp h with rfl | h
    · exact vts96 (tv := 0) B F X N T hk hd' hu hb (ret 0)
    rcases List.mem_cons.mp h with rfl | h
    · exact vts97 (tv := 0) B F X N T hk hd' hu hb (ret 0)
    rcases List.mem_cons.mp h with rfl | h
    · exact vts98 (tv := 0) B F X N T hk hd' hu hb (ret 0)
    · rw [List.mem_singleton.mp h] at hb
      exact vts99 (tv := 0) B F X N T hk hd' hu hb (ret 0)
  | tup vs as h hs h1 h3 ha =>
    subst h
    exact vto_tup B F X (news_dup N hm) T hk hd' hu hb hs h1 h3 (scr_ok ha h3) (fun t h' tk' F2 N2 => ret t h' tk' F2 (fun z hz => N2 z (.tail _ hz)))
local macro_rules | `(tactic| walk_at "call ref") => `(tactic| (k_here; (with_reducible show wpAny _ _ (call (Value.ref 132) _) _ _ _); k_dflt (apply oth_k); (iterate 14 walk_at "zz e"); all_goals walk_at "zz s"))
local macro_rules | `(tactic| walk_at "call ref") => `(tactic| (k_here; (with_reducible show wpAny _ _ (call (Value.ref 86) _) _ _ _); k_dflt (apply vtO); (iterate 9 walk_at "zz e"); (first | exact bd86_one _ | exact bd86_two _ _); walk_at "zz e"; intros; (try dsimp only [retW]); (try k_sweep)))
local macro_rules | `(tactic| walk_at "call ref") => `(tactic| (k_here; (with_reducible show wpAny _ _ (call (Value.ref 91) _) _ _ _); k_dflt (apply num_none); (iterate 10 walk_at "zz e"); walk_at "zz s"))
local macro_rules | `(tactic| walk_at "compareOp NotEq str str") => `(tactic| (k_here; with_reducible first | apply ne_str_S | (apply ne_str_K; assumption) | (apply ne_str_E; assumption)))
local macro_rules | `(tactic| walk_at "compareOp Eq str str") => `(tactic| (k_here; with_reducible first | apply eq_str_S | (apply eq_str_N; assumption) | (apply eq_str_E; assumption)))
theorem othr_h {sort : Int} {ts : Tok} (B : Below A₀ base outer h₀) (F : Fr h₀ L s.heap m) (X : (hd.heap_39 w.params).In h₀) (N : News h₀ L s.heap ((tp, o) :: (np, nums) :: rest)) (T : Top hd.view_39 lo mean mg mb h₀) (hk : cs.kind = .function) (hd' : dp + 40 < recursionLimit) (hu : un + 260 < cLine)
  (h2 : ∀ p ∈ rest, p.1 ≠ tp) (hne : @Ne Nat np tp) (hT : TapeO tp np o) (hN : NumsO nums) (hs0 : 4 ≤ sort) (hs1 : sort < 8)
  (ret : ∀ o' h' tk', Fr h₀ L h' m → News h₀ L h' ((tp, o') :: (np, nums) :: rest) → TapeO tp np o' → Q (.bool true) { s with heap := h', toks := tk' })
  : wpAny (model PySem.Challenge.rw_pq1295_01.row.prog w) (ktrTop dp un gd cn cs L a ccd cl outer) (call (.ref 153) [.ref tp, .int sort ts]) Q E s := by
  revert X
  k_fill
  intro X
  refine wpAny_call ?_
  k_dflt (refine' code_def (binds := [(Str.ofString "tape", .ref tp), (Str.ofString "sort", .int sort ts)]) ?k1 ?k2 ?k3 ?k4 ?k5 ?kA ?kF ?kK ?k6 ?k7 ?k8 ?k9 ?kB ?_ ?c2 ?c3 ?c4 ?c5; (case kA => exact rfl); (case kF => exact rfl); (case kK => assumption); (case k1 => k_asm); (case k2 => k_asm); (case k3 => k_asm); (case k4 => k_asm); (case k5 => k_asm); (case k6 => k_is); (case k7 => k_is); (case k8 => ktr_room); (case k9 => exact BindsTo.of_eq rfl); (case c5 => decide); (case kB => exact locs rfl); (case c2 => exact rfl); (case c3 => exact rfl); (case c4 => exact rfl); k_whole; intro g' L' h' FG' F' N' B' X' T'; (try dsimp only); (try k_lift B'); (try k_fold))

  k_steps
  all_goals first | (rename Fr h₀ L _ _ => F2; rename News h₀ L _ _ => N2; exact ret _ _ _ F2 (news_of N2 (by ((repeat (refine List.forall_mem_cons.mpr ⟨(by repeat (first | exact List.Mem.head _ | refine List.Mem.tail _ ?_)), ?_⟩)); (intro p hp; repeat (first | exact hp | refine List.Mem.tail _ ?_))))) (by assumption))
theorem othr_k {nw : Obj → List (Addr × Obj)} {sort : Int} {ts : Tok} (B : Below A₀ base outer h₀) (F : Fr h₀ L s.heap m) (X : (hd.heap_39 w.params).In h₀) (N : News h₀ L s.heap (news)) (T : Top hd.view_39 lo mean mg mb h₀) (hk : cs.kind = .function) (hd' : dp + 40 < recursionLimit) (hu : un + 260 < cLine)
  (U : ∀ o', Upd tp o o' news (nw o')) (hT : TapeO tp np o) (hN : NumsO nums) (hn : (np, nums) ∈ news) (hs0 : 4 ≤ sort) (hs1 : sort < 8)
  (ret : ∀ o' h' tk', Fr h₀ L h' m → News h₀ L h' (nw o') → TapeO tp np o' → Q (.bool true) { s with heap := h', toks := tk' })
  : wpAny (model PySem.Challenge.rw_pq1295_01.row.prog w) (ktrTop dp un gd cn cs L a ccd cl outer) (call (.ref 153) [.ref tp, .int sort ts]) Q E s := by
  have hne : @Ne Nat tp np := by obtain ⟨_, _, _, _, _, _, _, _, h⟩ := hT; exact h
  obtain ⟨rest, N', h2, hR, hL⟩ := upd_lift N U hn hne
  exact othr_h B F X N' T hk hd' hu h2 (Ne.symm hne) hT hN hs0 hs1 fun o' h' tk' F2 N2 => ret o' h' tk' F2 (hR _ _ [] N2)

local macro_rules | `(tactic| walk_at "call ref") => `(tactic| (k_here; (with_reducible show wpAny _ _ (call (Value.ref 86) [_]) _ _ _); k_dflt (apply vtL1 (tn := 0)); (iterate 9 walk_at "zz e"); walk_at "zz s"))
local macro_rules | `(tactic| walk_at "call ref") => `(tactic| (k_here; (with_reducible show wpAny _ _ (call (Value.ref 86) [_]) _ _ _); k_dflt (apply vtL2 (tn := 0)); (iterate 9 walk_at "zz e"); walk_at "zz s"))
local macro_rules | `(tactic| walk_at "call ref") => `(tactic| (k_here; (with_reducible show wpAny _ _ (call (Value.ref 86) [_, _]) _ _ _); k_dflt (apply vtL3); (iterate 9 walk_at "zz e"); walk_at "zz s"))
local macro_rules | `(tactic| walk_at "call ref") => `(tactic| (k_here; (with_reducible show wpAny _ _ (call (Value.ref 146) _) _ _ _); k_dflt (apply right_k); (iterate 16 walk_at "zz e"); walk_at "zz s"))
local macro_rules | `(tactic| walk_at "call ref") => `(tactic| (k_here; (with_reducible show wpAny _ _ (call (Value.ref 153) _) _ _ _); k_dflt (apply othr_k); (iterate 14 walk_at "zz e"); walk_at "zz s"))
local macro_rules | `(tactic| walk_at "subscriptTail") => `(tactic| (k_here; with_reducible apply spoilt_item; k_dflt k_in; k_is; decide +kernel; (iterate 3 walk_at "zz e"); with_unfolding_all rfl; intros))
local macro_rules | `(tactic| walk_at "call ref") => `(tactic| ((with_reducible show wpAny _ _ (call (Value.ref 106) _) _ _ _); refine hold ?_))
local macro_rules | `(tactic| walk_at "exec For Name Call cons nil") => `(tactic| refine hold ?_)
local macro_rules | `(tactic| walk_at "pyIter ref") => `(tactic| refine hold ?_)

theorem rg6_small {d : Int} (h0 : 0 ≤ d) (h1 : d < 6) : Builtin.Range.small 0 d 1 = true := by
  obtain ⟨k, rfl⟩ := Int.eq_ofNat_of_zero_le h0
  have key : ∀ n : Fin 6, Builtin.Range.small 0 ((n.val : Nat) : Int) 1 = true := by decide +kernel
  exact key ⟨k, Int.ofNat_lt.mp h1⟩
theorem rg6_size {d : Int} (h0 : 0 ≤ d) (h1 : d < 6) : Builtin.Range.rangeSize 0 d 1 = ((d.toNat : Nat) : Int) := by
  obtain ⟨k, rfl⟩ := Int.eq_ofNat_of_zero_le h0
  have key : ∀ n : Fin 6, Builtin.Range.rangeSize 0 ((n.val : Nat) : Int) 1 = ((n.val : Nat) : Int) := by decide +kernel
  exact key ⟨k, Int.ofNat_lt.mp h1⟩
theorem law_t : PySem.Challenge.rw_pq1295_01.Holds := by
  refine hd ?_
  k_go0
  all_goals (try k_fold)
  k_steps
  refine unhold ?_
  k_dflt (refine' tape_c ?kB ?kF ?kX ?kN ?kT ?kk ?kd ?ku ?hl ?hI ?hz ?_)
  (case kF => k_asm)
  (case kB => k_asm)
  (case kX => k_asm)
  (case kN => k_asm)
  (case kT => k_asm)
  (case hl => k_asm)
  (case hI => k_asm)
  (case hz => omega)
  (case kk => first | exact rfl | assumption)
  (case kd => ((try dsimp only [Around.deeper, ktrTop]); first | omega | decide))
  (case ku => ((try dsimp only [Around.deeper, ktrTop]); first | omega | decide))
  intro tp np o nums h1 tk1 F1 N1 hT hN
  have hne : @Ne Nat np tp := by obtain ⟨_, _, _, _, _, _, _, _, h⟩ := hT; exact Ne.symm h
  k_steps
  refine unhold ?_
  rename Fr _ _ _ _ => lF'
  with_unfolding_all refine' For_invVF lF' ?k1 ?k2 ?_
  case k1 => exact rfl
  case k2 => exact rfl
  k_steps
  refine unhold ?_
  rename IsRange _ _ _ _ _ _ _ _ => hr
  rename Fr _ _ _ _ => F3
  rename News _ _ _ _ => N3
  rename TapeO _ _ _ => hT3
  refine' kst_range (σ := Obj) (fun c => [(tp, c), (np, nums)]) (fun _ => []) (fun c => TapeO tp np c) [Str.ofString "sort", Str.ofString "is_right"] (fun _ _ => True) _ rfl hr (rg6_small (by assumption) (by assumption)) (rg6_size (by assumption) (by assumption)) F3 (news_of N3 (by ((repeat (refine List.forall_mem_cons.mpr ⟨(by repeat (first | exact List.Mem.head _ | refine List.Mem.tail _ ?_)), ?_⟩)); (intro p hp; repeat (first | exact hp | refine List.Mem.tail _ ?_))))) hT3 (List.forall_mem_nil _) trivial ?turn ?done
  case turn =>
    intro c pre k t u h tk own hk9 hpre hoff hTc _ F9 N9
    have hown : ∀ p ∈ own, p.1 ≠ tp := hoff.ne (.head _)
    clear F3 N3 hoff
    try k_fold
    k_steps
    all_goals
      rename Fr _ _ _ _ => F8
      rename News _ _ _ _ => N8
      rename TapeO _ _ _ => hT9
      refine kst_end _ F8 N8 (by exact fun p hp => (List.forall_mem_cons.mpr ⟨.head _, List.forall_mem_cons.mpr ⟨.tail _ (.head _), List.forall_mem_nil _⟩⟩ p hp)) (fun p hp => .tail _ (.tail _ hp)) (by rfl) hT9 (List.forall_mem_nil _) ?_ trivial
      intro z h1 _ h3
      have h4 : z ≠ Str.ofString "sort" := by rintro rfl; revert h3; decide +kernel
      have h5 : z ≠ Str.ofString "is_right" := by rintro rfl; revert h3; decide +kernel
      simp [kstB, h1, h4, h5]
  case done =>
    intro c u h tk hTc _ F9 N9
    clear F3 N3
    try k_fold
    k_steps

end Mine
theorem PySem.Challenge.cw_pq1295_01_holds : PySem.Challenge.rw_pq1295_01.Holds := by
  exact Mine.law_t
