import PyProof.Rows.All
import Wide.All
import OpenK.AllK
import Wide.FinOn
import PySem.Challenge.RW_oj0015_01
open PySem PySem.W PySem.Calls PyProof.Rows
set_option Elab.async false
set_option maxRecDepth 100000
set_option maxHeartbeats 8000000
set_option compiler.extract_closed false
open_top Mine.hd for PySem.Challenge.rw_oj0015_01
namespace Mine
open PySem PySem.W PySem.Calls PyProof.Rows

/-- what a call of a def tells: from the ledger `news` it comes back with a value and a ledger that `post` says -/
def Tell (lim : Nat) (w : World) (f : Addr) (args : List Value) (news : List (Addr × Obj)) (post : Value → List (Addr × Obj) → Prop) : Prop :=
  ∀ (dp un : Nat) (gd : Option (List Code)) (cn : PySem.Str) (cs : Scope) (a : Addr) (ccd : Value) (cl : List (PySem.Str × Addr)) (outer : List Env) (A₀ : Around) (base h₀ : Heap) (L : Addr)
    (m mg mb : PySem.Str → Option Value) (mean : ExcName → Option Value) (s : Shared) (Q E : Value → Shared → Prop),
    Below A₀ base outer h₀ → Fr h₀ L s.heap m → (Mine.hd.heap_39 w.params).In h₀ → News h₀ L s.heap news → Top Mine.hd.view_39 (looseW Mine.hd.view_39 []) mean mg mb h₀ →
    cs.kind = .function → dp < lim → un < 9 * lim →
    (∀ r h' tk' news', post r news' → Fr h₀ L h' m → News h₀ L h' news' → Q r { s with heap := h', toks := tk' }) →
    wpAny (model PySem.Challenge.rw_oj0015_01.row.prog w) (ktrTop dp un gd cn cs L a ccd cl outer) (call (.ref f) args) Q E s

section
variable {lim : Nat} {w : World} {f : Addr} {args : List Value} {news : List (Addr × Obj)} {post post' : Value → List (Addr × Obj) → Prop}
theorem Tell.use {dp un : Nat} {gd : Option (List Code)} {cn : PySem.Str} {cs : Scope} {a : Addr} {ccd : Value} {cl : List (PySem.Str × Addr)} {outer : List Env} {A₀ : Around} {base h₀ : Heap} {L : Addr}
    {m mg mb : PySem.Str → Option Value} {mean : ExcName → Option Value} {s : Shared} {Q E : Value → Shared → Prop} (C : Tell lim w f args news post)
    (B : Below A₀ base outer h₀) (F : Fr h₀ L s.heap m) (X : (Mine.hd.heap_39 w.params).In h₀) (N : News h₀ L s.heap news) (T : Top Mine.hd.view_39 (looseW Mine.hd.view_39 []) mean mg mb h₀)
    (hk : cs.kind = .function) (hd : dp < lim) (hu : un < 9 * lim)
    (ret : ∀ r h' tk' news', post r news' → Fr h₀ L h' m → News h₀ L h' news' → Q r { s with heap := h', toks := tk' }) :
    wpAny (model PySem.Challenge.rw_oj0015_01.row.prog w) (ktrTop dp un gd cn cs L a ccd cl outer) (call (.ref f) args) Q E s :=
  C dp un gd cn cs a ccd cl outer A₀ base h₀ L m mg mb mean s Q E B F X N T hk hd hu ret

/-- another ledger, another word -/
theorem Tell.conv {news₁ : List (Addr × Obj)} (C : Tell lim w f args news post) (hs : ∀ p ∈ news, p ∈ news₁) (hp : ∀ r nw, post r nw → ∃ nw', post' r nw' ∧ ∀ p ∈ nw', p ∈ nw) : Tell lim w f args news₁ post' := by
  intro dp un gd cn cs a ccd cl outer A₀ base h₀ L m mg mb mean s Q E B F X N T hk hd hu ret
  refine C dp un gd cn cs a ccd cl outer A₀ base h₀ L m mg mb mean s Q E B F X (fun p h => N p (hs p h)) T hk hd hu fun r h' tk' nw hpo F' N' => ?_
  obtain ⟨nw', h1, h2⟩ := hp r nw hpo
  exact ret r h' tk' nw' h1 F' fun p h => N' p (h2 p h)

/-- a def that only reads -/
theorem Tell.read {fp : List (Addr × Obj)} {r₀ : Nat → Value} (C : ∀ R, Tell lim w f args (fp ++ R) (fun r nw => (∃ t, r = r₀ t) ∧ nw = fp ++ R)) (hfp : ∀ p ∈ fp, p ∈ news) :
    Tell lim w f args news (fun r nw => (∃ t, r = r₀ t) ∧ nw = news) := by
  refine (C news).conv (fun p h => (List.mem_append.mp h).elim (hfp p) id) ?_
  rintro r nw ⟨h, rfl⟩
  exact ⟨news, ⟨h, rfl⟩, fun p h => List.mem_append.mpr (.inr h)⟩

/-- a def that turns one object -/
theorem Tell.upd {T : Type} {d : Addr} {old : Obj} {new : T → Obj} {news' : T → List (Addr × Obj)} {fp : List (Addr × Obj)} {P : Value → T → Prop}
    (C : ∀ R, (∀ p ∈ R, @Ne Nat p.1 d) → Tell lim w f args ((d, old) :: (fp ++ R)) (fun r nw => ∃ t, P r t ∧ nw = (d, new t) :: (fp ++ R)))
    (U : ∀ t, Upd d old (new t) news (news' t)) (hfp : ∀ p ∈ fp, p ∈ news) (T0 : T) :
    Tell lim w f args news (fun r nw => ∃ t, P r t ∧ nw = news' t) := by
  obtain ⟨pre, pst, e1, e2, h1, h2⟩ := (U T0).split
  have hsub : ∀ p ∈ (d, old) :: (fp ++ (pre ++ pst)), p ∈ news := by
    intro p hp
    rw [e1]
    simp only [List.mem_cons, List.mem_append] at hp ⊢
    rcases hp with hp | hp | hp | hp
    · exact .inr (.inl hp)
    · have := hfp p hp; rw [e1] at this; simpa only [List.mem_cons, List.mem_append] using this
    · exact .inl hp
    · exact .inr (.inr hp)
  refine (C (pre ++ pst) ?_).conv hsub ?_
  · intro p hp
    exact (List.mem_append.mp hp).elim (h1 p) (h2 p)
  · rintro r nw ⟨t, hP, rfl⟩
    refine ⟨news' t, ⟨t, hP, rfl⟩, ?_⟩
    intro p hp
    obtain ⟨pre', pst', e1', e2', h1', h2'⟩ := (U t).split
    rw [e2'] at hp
    have hq : ∀ q ∈ news, q.1 ≠ d → q ∈ pre ++ pst := by
      intro q hq hne
      rw [e1] at hq
      simp only [List.mem_cons, List.mem_append] at hq ⊢
      rcases hq with hq | rfl | hq
      · exact .inl hq
      · exact absurd rfl hne
      · exact .inr hq
    simp only [List.mem_cons, List.mem_append] at hp ⊢
    rcases hp with hp | hp | hp
    · exact .inr (.inr (by simpa only [List.mem_append] using hq p (by rw [e1']; simp [hp]) (h1' p hp)))
    · exact .inl hp
    · exact .inr (.inr (by simpa only [List.mem_append] using hq p (by rw [e1']; simp [hp]) (h2' p hp)))
end

abbrev tupOf (vs : List Value) : Obj := { cls := .type "tuple", data := .seq vs.toArray }

/-- a macro that is run, as it lies -/
structure Ent where
  x : Nat
  d : Nat
  ev : Nat
  evs : List Value
  t1 : Nat
  t2 : Nat
  t3 : Nat
  t4 : Nat
  t5 : Nat
  kt : Nat
  kp : Nat
  ko : Nat
  ns : List Int
  turns : Int
  place : Int
  over : Int

abbrev entDict (w : World) (t1 t2 t3 t4 t5 : Nat) (ev : Addr) (turns : Int) (kt : Nat) (place : Int) (kp : Nat) (over : Int) (ko : Nat) : Obj :=
  dictOf [⟨PyData.keyHash w.params "events", .str "events" t1, .ref ev⟩, ⟨PyData.keyHash w.params "turns", .str "turns" t2, .int turns kt⟩, ⟨PyData.keyHash w.params "caller", .str "caller" t3, .none⟩,
    ⟨PyData.keyHash w.params "place", .str "place" t4, .int place kp⟩, ⟨PyData.keyHash w.params "over", .str "over" t5, .int over ko⟩] 5
end Mine
namespace Mine
open PySem PySem.W PySem.Calls PyProof.Rows
theorem last_app : ∀ (pre : List Value) (v : Value), kl_last (pre ++ [v]) = some (pre, v)
  | [], _ => rfl
  | [_], _ => rfl
  | a :: b :: r, v => by
    have ih := last_app (b :: r) v
    simp only [List.cons_append] at ih ⊢
    unfold kl_last
    rw [ih]
section
variable {prog : Program} {w : World} {A : Around} {E : Value → Shared → Prop} {s : Shared} {h₀ : Heap} {L D D' : Addr} {m : PySem.Str → Option Value} {news news' : List (Addr × Obj)} {vs us pre : List Value} {ns : List Int} {n n' : Nat} {k : Int} {u : Tok} {v : Value}

theorem isList_of (N : News h₀ L s.heap news) (hm : (D, listOf vs.toArray n) ∈ news) : s.heap.IsList D vs.toArray := ⟨_, (N _ hm).1, rfl, n, rfl⟩
theorem isTup_of (N : News h₀ L s.heap news) (hm : (D, tupOf vs) ∈ news) : IsTup s.heap D vs.toArray := ⟨_, (N _ hm).1, rfl, _, rfl⟩
theorem len_lst {Q : Value → Shared → Prop} (N : News h₀ L s.heap news) (hm : (D, listOf vs.toArray n) ∈ news) (hfit : (vs.length : Int) < 2 ^ 63)
    (h : Q (.int (vs.length : Int) (s.toks + 1)) { s with toks := s.toks + 1 + 1 }) : wpAny (model prog w) A (call (.builtin "len") [.ref D]) Q E s := by
  refine len_list (isList_of N hm) (by simpa using hfit) ?_
  simpa only [List.size_toArray] using h
theorem len_tup {Q : Value → Shared → Prop} (N : News h₀ L s.heap news) (hm : (D, tupOf vs) ∈ news) (hfit : (vs.length : Int) < 2 ^ 63)
    (h : Q (.int (vs.length : Int) (s.toks + 1)) { s with toks := s.toks + 1 + 1 }) : wpAny (model prog w) A (call (.builtin "len") [.ref D]) Q E s := by
  refine len_tuple (isTup_of N hm) (by simpa using hfit) ?_
  simpa only [List.size_toArray] using h
theorem item_tup {value slice : PySem.Expr} {Q : Value → Shared → Prop} (N : News h₀ L s.heap news) (hm : (D, tupOf vs) ∈ news) (hi : IntsAre vs ns) (h0 : 0 ≤ k) (h1 : k < (ns.length : Int)) (hfit : k < 2 ^ 63)
    (h : ∀ t, Q (.int (ns.getD k.toNat 0) t) s)
    (hs : subscripted slice false (.ref D) (.int k u) = operate [.ref D, .int k u] (getItem (.ref D) (.int k u)) := by with_unfolding_all rfl) :
    wpAny (model prog w) A (subscriptTail value slice (.ref D) (.int k u)) Q E s := by
  have hk : k.toNat < ns.length := by omega
  have hg : ns[k.toNat]? = some (ns.getD k.toNat 0) := by simp [List.getD, hk]
  obtain ⟨t, ht⟩ := hi.get k.toNat (ns.getD k.toNat 0) hg
  refine item_tupleT (isTup_of N hm) (by omega) hfit (j := k.toNat) ?_ ht (h t) hs
  unfold seqIndex?
  rw [hi.length]
  simp [h1, Int.not_lt.mpr h0, h0]
theorem item_lst {value slice : PySem.Expr} {Q : Value → Shared → Prop} (N : News h₀ L s.heap news) (hm : (D, listOf (pre ++ [v]).toArray n) ∈ news) (h : Q v s)
    (hs : subscripted slice false (.ref D) (.int (-1) u) = operate [.ref D, .int (-1) u] (getItem (.ref D) (.int (-1) u)) := by with_unfolding_all rfl) :
    wpAny (model prog w) A (subscriptTail value slice (.ref D) (.int (-1) u)) Q E s := by
  have hl := isList_of N hm
  refine tail_any hl.typeIs slot_list_getitem.lookup (wpAny_getItem_list_neg (x := v) hl (by omega) ?_ (by omega) ?_ h) hs
  · simp; omega
  · have e : ((-1 : Int) + ((pre ++ [v]).toArray.size : Int)).toNat = pre.length := by simp; omega
    rw [e]; simp
theorem item_fst {value slice : PySem.Expr} {Q : Value → Shared → Prop} (N : News h₀ L s.heap news) (hm : (D, listOf (v :: vs).toArray n) ∈ news) (h : Q v s)
    (hs : subscripted slice false (.ref D) (.int 0 u) = operate [.ref D, .int 0 u] (getItem (.ref D) (.int 0 u)) := by with_unfolding_all rfl) :
    wpAny (model prog w) A (subscriptTail value slice (.ref D) (.int 0 u)) Q E s := by
  have hl := isList_of N hm
  exact tail_any hl.typeIs slot_list_getitem.lookup (wpAny_getItem_list (x := v) hl (by omega) (by omega) (by simp) h) hs
theorem ne_nil {Q : Value → Shared → Prop} (N : News h₀ L s.heap news) (h1 : (D, listOf vs.toArray n) ∈ news) (h2 : (D', listOf (#[] : Array Value) n') ∈ news) (hu : A.units < cLine) {b : Bool} (hb : (!vs.isEmpty) = b) (h : Q (.bool b) s) :
    wpAny (model prog w) A (compareOp .NotEq (.ref D) (.ref D')) Q E s := by
  subst hb
  cases vs with
  | nil => exact (PySem.SeqAt.RcNeAt.lists (e := fun _ => true) (isList_of N h1) (isList_of (vs := []) N h2) rfl hu (fun j h1 => absurd h1 (Nat.not_lt_zero _))) prog w E Q h
  | cons a r => exact (PySem.SeqAt.RcNeAt.lists_lengths (isList_of N h1) (isList_of (vs := []) N h2) (by simp) hu) prog w E Q h
theorem eq_nil {Q : Value → Shared → Prop} (N : News h₀ L s.heap news) (h1 : (D, listOf vs.toArray n) ∈ news) (h2 : (D', listOf (#[] : Array Value) n') ∈ news) (hu : A.units < cLine) {b : Bool} (hb : vs.isEmpty = b) (h : Q (.bool b) s) :
    wpAny (model prog w) A (compareOp .Eq (.ref D) (.ref D')) Q E s := by
  subst hb
  cases vs with
  | nil => exact (PySem.SeqAt.RcAt.lists (e := fun _ => true) (isList_of N h1) (isList_of (vs := []) N h2) rfl hu (fun j h1 => absurd h1 (Nat.not_lt_zero _))) prog w E Q h
  | cons a r => exact (PySem.SeqAt.RcAt.lists_lengths (isList_of N h1) (isList_of (vs := []) N h2) (by simp) hu) prog w E Q h
theorem eq_tupnil {Q : Value → Shared → Prop} (N : News h₀ L s.heap news) (h1 : (D, tupOf vs) ∈ news) (h2 : IsTup s.heap D' #[]) (hu : A.units < cLine) {b : Bool} (hb : vs.isEmpty = b) (h : Q (.bool b) s) :
    wpAny (model prog w) A (compareOp .Eq (.ref D) (.ref D')) Q E s := by
  subst hb
  refine PySem.SeqAt.eq_tupleAt (e := fun _ => true) (isTup_of N h1) h2 hu (fun j _ h1 => absurd h1 (Nat.not_lt_zero _)) ?_
  cases vs with
  | nil => simpa using h
  | cons a r => simpa using h
theorem pop_lst {Q : Value → Shared → Prop} (F : Fr h₀ L s.heap m) (N : News h₀ L s.heap news) (U : Upd D (listOf (pre ++ [v]).toArray n) (listOf pre.toArray (n + 1)) news news') (hz : pre.length + 1 ≤ sizeLine)
    (h : ∀ h', Fr h₀ L h' m → News h₀ L h' news' → Q v { s with heap := h' }) : wpAny (model prog w) A (call (.builtin "list.pop") [.ref D]) Q E s := by
  refine kl_pop (p := pre) (y := v) F N (last_app pre v) U (by simpa using hz) h
theorem pop_fst {Q : Value → Shared → Prop} (F : Fr h₀ L s.heap m) (N : News h₀ L s.heap news) (U : Upd D (listOf (v :: vs).toArray n) (listOf vs.toArray (n + 1)) news news') (hz : vs.length + 1 ≤ sizeLine)
    (h : ∀ h', Fr h₀ L h' m → News h₀ L h' news' → Q v { s with heap := h' }) : wpAny (model prog w) A (call (.builtin "list.pop") [.ref D, .int 0 u]) Q E s := by
  refine kl_popAt (its := (v :: vs).toArray) (k := 0) (p := []) (q := vs) (y := v) F N rfl ?_ rfl U (by simpa using hz) h
  simp [seqIndex?]
end
end Mine
local macro_rules | `(tactic| k_ne) => `(tactic| (refine neN ?_; (try dsimp only); first | assumption | (apply Ne.symm; assumption)))
local macro_rules | `(tactic| walk_at "call builtin:len") => `(tactic| (k_here; (with_reducible show wpAny _ _ (PySem.call (Value.builtin "len") [Value.ref _]) _ _ _); k_dflt (first
  | (refine' Mine.len_tup ?k1 ?k2 ?k3 ?_; (case k1 => k_asm); (case k2 => k_mem); (case k3 => omega); k_whole)
  | (refine' Mine.len_lst ?k1 ?k2 ?k3 ?_; (case k1 => k_asm); (case k2 => k_mem); (case k3 => first | omega | (simp only [List.length_map, List.length_append, List.length_cons, List.length_nil]; omega)); k_whole))))
local macro_rules | `(tactic| walk_at "subscriptTail") => `(tactic| (k_here; (with_reducible show wpAny _ _ (subscriptTail _ _ (Value.ref _) (Value.int _ _)) _ _ _); k_dflt (refine' Mine.item_tup ?k1 ?k2 ?k3 ?k4 ?k5 ?k6 ?_ ?k7; (case k1 => k_asm); (case k2 => k_mem); (case k3 => with_reducible assumption); (case k4 => omega); (case k5 => omega); (case k6 => omega); (case k7 => with_unfolding_all rfl); k_whole; intro _)))
local macro_rules | `(tactic| walk_at "subscriptTail") => `(tactic| (k_here; (with_reducible show wpAny _ _ (subscriptTail _ _ (Value.ref _) (Value.int 0 _)) _ _ _); k_dflt (refine' Mine.item_fst ?k1 ?k2 ?_ ?k3; (case k1 => k_asm); (case k2 => k_mem); (case k3 => with_unfolding_all rfl); k_whole)))
local macro_rules | `(tactic| walk_at "subscriptTail") => `(tactic| (k_here; (with_reducible show wpAny _ _ (subscriptTail _ _ (Value.ref _) (Value.int (-1) _)) _ _ _); k_dflt (refine' Mine.item_lst ?k1 ?k2 ?_ ?k3; (case k1 => k_asm); (case k2 => k_mem); (case k3 => with_unfolding_all rfl); k_whole)))
local macro_rules | `(tactic| walk_at "call builtin:list.pop") => `(tactic| (k_here; k_dflt (first
  | ((with_reducible show wpAny _ _ (PySem.call (Value.builtin _) [Value.ref _]) _ _ _); refine' Mine.pop_lst ?F ?N ?U ?z ?_; (case F => k_asm); (case N => k_asm); (case U => k_upd); (case z => (rw [sizeLine_eq]; first | omega | (simp only [List.length_map]; omega))))
  | ((show wpAny _ _ (PySem.call (Value.builtin _) [Value.ref _, Value.int 0 _]) _ _ _); refine' Mine.pop_fst ?F ?N ?U ?z ?_; (case F => k_asm); (case N => k_asm); (case U => k_upd); (case z => (rw [sizeLine_eq]; first | omega | (simp only [List.length_map]; omega))))); intro h' F' N'; (try k_sweep)))
local macro_rules | `(tactic| walk_at "compareOp NotEq ref ref") => `(tactic| (k_here; (with_reducible show wpAny _ _ (compareOp CmpOp.NotEq (Value.ref _) (Value.ref _)) _ _ _); k_dflt (refine' Mine.ne_nil ?k1 ?k2 ?k3 ?k4 ?k5 ?_; (case k1 => k_asm); (case k2 => k_mem); (case k3 => k_mem); (case k4 => (have hcL9 := cLine_is; (try simp only [units_in1, units_deeper, Around.mark_units, units_caller]); (try dsimp only [ktrTop]); omega)); (case k5 => first | assumption | rfl | (simp; done)); k_whole)))
local macro_rules | `(tactic| walk_at "compareOp Eq ref ref") => `(tactic| (k_here; (with_reducible show wpAny _ _ (compareOp CmpOp.Eq (Value.ref _) (Value.ref _)) _ _ _); k_dflt (refine' Mine.eq_nil ?k1 ?k2 ?k3 ?k4 ?k5 ?_; (case k1 => k_asm); (case k2 => k_mem); (case k3 => k_mem); (case k4 => (have hcL9 := cLine_is; (try simp only [units_in1, units_deeper, Around.mark_units, units_caller]); (try dsimp only [ktrTop]); omega)); (case k5 => first | assumption | rfl | (simp; done)); k_whole)))
namespace Mine
abbrev plDict (w : World) (t : Nat) (l : Addr) : Obj := dictOf [⟨PyData.keyHash w.params "stack", .str "stack" t, .ref l⟩] 1

theorem is_done0 (w : World) (x d ev t1 t2 t3 t4 t5 kt kp ko : Nat) (turns place over : Int) (evs : List Value) (hlen : evs.length ≤ 63) (b : Bool) (hb : (decide (turns = 0) || decide (evs.length = 0)) = b) (R : List (Addr × Obj)) :
    Tell 900 w 35 [.ref x] ([(x, instObj 59 d), (d, entDict w t1 t2 t3 t4 t5 ev turns kt place kp over ko), (ev, tupOf evs)] ++ R)
      (fun r nw => (∃ _ : Nat, r = .bool b) ∧ nw = [(x, instObj 59 d), (d, entDict w t1 t2 t3 t4 t5 ev turns kt place kp over ko), (ev, tupOf evs)] ++ R) := by
  unfold Tell
  k_fill
  rintro dp un gd cn sc a ccd cl outer A₀ base h₀ L m mg mb mean ⟨hp, gens, drawn, toks, os⟩ Q E B F X N T hkind hd hu hret
  simp only [List.cons_append, List.nil_append] at N hret
  w_on
  have hMk : KstMark := kstMark
  refine wpAny_call ?_
  k_dflt cell_enter
  k_steps
  all_goals (refine hret _ _ _ _ ⟨⟨0, ?_⟩, rfl⟩ (by k_asm) (by k_asm); refine congrArg Value.bool ?_; subst hb)
  · simp_all
  · have : turns ≠ 0 := by simp_all
    simp only [this, decide_false, Bool.false_or]
    cases evs with
    | nil => rfl
    | cons a r => simp; omega
theorem is_between0 (w : World) (x d ev t1 t2 t3 t4 t5 kt kp ko : Nat) (turns place over : Int) (evs : List Value) (hlen : evs.length ≤ 63) (b : Bool) (hb : (decide (place = evs.length)) = b) (R : List (Addr × Obj)) :
    Tell 900 w 42 [.ref x] ([(x, instObj 59 d), (d, entDict w t1 t2 t3 t4 t5 ev turns kt place kp over ko), (ev, tupOf evs)] ++ R)
      (fun r nw => (∃ _ : Nat, r = .bool b) ∧ nw = [(x, instObj 59 d), (d, entDict w t1 t2 t3 t4 t5 ev turns kt place kp over ko), (ev, tupOf evs)] ++ R) := by
  unfold Tell
  k_fill
  rintro dp un gd cn sc a ccd cl outer A₀ base h₀ L m mg mb mean ⟨hp, gens, drawn, toks, os⟩ Q E B F X N T hkind hd hu hret
  simp only [List.cons_append, List.nil_append] at N hret
  w_on
  have hMk : KstMark := kstMark
  refine wpAny_call ?_
  k_dflt cell_enter
  k_steps
  all_goals (refine hret _ _ _ _ ⟨⟨0, ?_⟩, rfl⟩ (by k_asm) (by k_asm); refine congrArg Value.bool ?_; subst hb)
  rfl
theorem is_running0 (w : World) (x d t l n : Nat) (vs : List Value) (b : Bool) (hb : (!vs.isEmpty) = b) (R : List (Addr × Obj)) :
    Tell 900 w 84 [.ref x] ([(x, instObj 129 d), (d, plDict w t l), (l, listOf vs.toArray n)] ++ R)
      (fun r nw => (∃ _ : Nat, r = .bool b) ∧ nw = [(x, instObj 129 d), (d, plDict w t l), (l, listOf vs.toArray n)] ++ R) := by
  unfold Tell
  k_fill
  rintro dp un gd cn sc a ccd cl outer A₀ base h₀ L m mg mb mean ⟨hp, gens, drawn, toks, os⟩ Q E B F X N T hkind hd hu hret
  simp only [List.cons_append, List.nil_append] at N hret
  w_on
  have hMk : KstMark := kstMark
  refine wpAny_call ?_
  k_dflt cell_enter
  k_steps
  all_goals ((rename News _ _ _ _ => nE); exact hret _ _ _ _ ⟨⟨0, rfl⟩, rfl⟩ (by k_asm) (fun p hp => nE p (List.mem_cons_of_mem _ hp)))
theorem top0 (w : World) (x d t l n : Nat) (pre : List Value) (v : Value) (R : List (Addr × Obj)) :
    Tell 900 w 105 [.ref x] ([(x, instObj 129 d), (d, plDict w t l), (l, listOf (pre ++ [v]).toArray n)] ++ R)
      (fun r nw => (∃ _ : Nat, r = v) ∧ nw = [(x, instObj 129 d), (d, plDict w t l), (l, listOf (pre ++ [v]).toArray n)] ++ R) := by
  unfold Tell
  k_fill
  rintro dp un gd cn sc a ccd cl outer A₀ base h₀ L m mg mb mean ⟨hp, gens, drawn, toks, os⟩ Q E B F X N T hkind hd hu hret
  simp only [List.cons_append, List.nil_append] at N hret
  w_on
  have hMk : KstMark := kstMark
  refine wpAny_call ?_
  k_dflt cell_enter
  k_steps
  all_goals (exact hret _ _ _ _ ⟨⟨0, rfl⟩, rfl⟩ (by k_asm) (by k_asm))
theorem next_turn0 (w : World) (x d ev t1 t2 t3 t4 t5 kt kp ko : Nat) (turns place over : Int) (hne : @Ne Nat x d) (R : List (Addr × Obj)) (hR : ∀ p ∈ R, @Ne Nat p.1 d) :
    Tell 900 w 49 [.ref x] ((d, entDict w t1 t2 t3 t4 t5 ev turns kt place kp over ko) :: ([(x, instObj 59 d)] ++ R))
      (fun r nw => ∃ t : Nat × Nat × Nat, r = .none ∧ nw = (d, entDict w t1 t2 t3 t4 t5 ev (if turns = -1 then -1 else turns - 1) t.1 0 t.2.1 (over + 1) t.2.2) :: ([(x, instObj 59 d)] ++ R)) := by
  unfold Tell
  k_fill
  rintro dp un gd cn sc a ccd cl outer A₀ base h₀ L m mg mb mean ⟨hp, gens, drawn, toks, os⟩ Q E B F X N T hkind hd hu hret
  simp only [List.cons_append, List.nil_append] at N hret
  have hoff : OwnOff R [d] := fun p hp b hb => by rw [List.mem_singleton.mp hb]; exact hR p hp
  w_on
  have hMk : KstMark := kstMark
  refine wpAny_call ?_
  k_dflt cell_enter
  k_steps
  all_goals (refine hret _ _ _ _ ?_ (by k_asm) (by k_asm))
  · have h1 : ¬ turns = -1 := by simp_all
    rw [if_neg h1]
    exact ⟨(_, _, _), rfl, rfl⟩
  · have h1 : turns = -1 := by simp_all
    rw [if_pos h1, ← h1]
    exact ⟨(_, _, _), rfl, rfl⟩
theorem take0 (w : World) (x d ev t1 t2 t3 t4 t5 kt kp ko : Nat) (turns place over : Int) (evs : List Value) (ns : List Int) (hi : IntsAre evs ns) (hlen : evs.length ≤ 63) (h0 : 0 ≤ place) (h1 : place < (ns.length : Int)) (hxd : @Ne Nat x d) (hed : @Ne Nat ev d) (R : List (Addr × Obj)) (hR : ∀ p ∈ R, @Ne Nat p.1 d) :
    Tell 900 w 56 [.ref x] ((d, entDict w t1 t2 t3 t4 t5 ev turns kt place kp over ko) :: ([(x, instObj 59 d), (ev, tupOf evs)] ++ R))
      (fun r nw => ∃ t : Nat, (∃ u, r = .int (ns.getD place.toNat 0) u) ∧ nw = (d, entDict w t1 t2 t3 t4 t5 ev turns kt (place + 1) t over ko) :: ([(x, instObj 59 d), (ev, tupOf evs)] ++ R)) := by
  unfold Tell
  k_fill
  rintro dp un gd cn sc a ccd cl outer A₀ base h₀ L m mg mb mean ⟨hp, gens, drawn, toks, os⟩ Q E B F X N T hkind hd hu hret
  simp only [List.cons_append, List.nil_append] at N hret
  have hoff : OwnOff R [d] := fun p hp b hb => by rw [List.mem_singleton.mp hb]; exact hR p hp
  have hlen2 := hi.length
  w_on
  have hMk : KstMark := kstMark
  refine wpAny_call ?_
  k_dflt cell_enter
  k_steps
  all_goals (rw [show place + 1 - 1 = place from by omega]; refine hret _ _ _ _ ?_ (by k_asm) (by k_asm); exact ⟨_, ⟨_, rfl⟩, rfl⟩)
end Mine
namespace Mine
section
variable {w : World} {x d ev t1 t2 t3 t4 t5 kt kp ko t l n : Nat} {turns place over : Int} {evs vs pre : List Value} {ns : List Int} {v : Value} {news : List (Addr × Obj)} {b : Bool}
theorem is_done (hx : (x, instObj 59 d) ∈ news) (hd : (d, entDict w t1 t2 t3 t4 t5 ev turns kt place kp over ko) ∈ news) (he : (ev, tupOf evs) ∈ news) (hlen : evs.length ≤ 63)
    (hb : (decide (turns = 0) || decide (evs.length = 0)) = b) : Tell 900 w 35 [.ref x] news (fun r nw => (∃ _ : Nat, r = .bool b) ∧ nw = news) :=
  Tell.read (r₀ := fun _ => .bool b) (is_done0 w x d ev t1 t2 t3 t4 t5 kt kp ko turns place over evs hlen b hb) (by
    intro p hp
    simp only [List.mem_cons, List.not_mem_nil, or_false] at hp
    rcases hp with rfl | rfl | rfl <;> assumption)
theorem is_between (hx : (x, instObj 59 d) ∈ news) (hd : (d, entDict w t1 t2 t3 t4 t5 ev turns kt place kp over ko) ∈ news) (he : (ev, tupOf evs) ∈ news) (hlen : evs.length ≤ 63)
    (hb : (decide (place = evs.length)) = b) : Tell 900 w 42 [.ref x] news (fun r nw => (∃ _ : Nat, r = .bool b) ∧ nw = news) :=
  Tell.read (r₀ := fun _ => .bool b) (is_between0 w x d ev t1 t2 t3 t4 t5 kt kp ko turns place over evs hlen b hb) (by
    intro p hp
    simp only [List.mem_cons, List.not_mem_nil, or_false] at hp
    rcases hp with rfl | rfl | rfl <;> assumption)
theorem is_running (hx : (x, instObj 129 d) ∈ news) (hd : (d, plDict w t l) ∈ news) (hl : (l, listOf vs.toArray n) ∈ news)
    (hb : (!vs.isEmpty) = b) : Tell 900 w 84 [.ref x] news (fun r nw => (∃ _ : Nat, r = .bool b) ∧ nw = news) :=
  Tell.read (r₀ := fun _ => .bool b) (is_running0 w x d t l n vs b hb) (by
    intro p hp
    simp only [List.mem_cons, List.not_mem_nil, or_false] at hp
    rcases hp with rfl | rfl | rfl <;> assumption)
theorem top (hx : (x, instObj 129 d) ∈ news) (hd : (d, plDict w t l) ∈ news) (hl : (l, listOf (pre ++ [v]).toArray n) ∈ news) : Tell 900 w 105 [.ref x] news (fun r nw => (∃ _ : Nat, r = v) ∧ nw = news) :=
  Tell.read (r₀ := fun _ => v) (top0 w x d t l n pre v) (by
    intro p hp
    simp only [List.mem_cons, List.not_mem_nil, or_false] at hp
    rcases hp with rfl | rfl | rfl <;> assumption)
theorem next_turn {news' : Nat × Nat × Nat → List (Addr × Obj)} (hx : (x, instObj 59 d) ∈ news) (hne : @Ne Nat x d)
    (U : ∀ t : Nat × Nat × Nat, Upd d (entDict w t1 t2 t3 t4 t5 ev turns kt place kp over ko) (entDict w t1 t2 t3 t4 t5 ev (if turns = -1 then -1 else turns - 1) t.1 0 t.2.1 (over + 1) t.2.2) news (news' t)) :
    Tell 900 w 49 [.ref x] news (fun r nw => ∃ t, r = .none ∧ nw = news' t) :=
  Tell.upd (P := fun r _ => r = .none) (fp := [(x, instObj 59 d)]) (fun R hR => next_turn0 w x d ev t1 t2 t3 t4 t5 kt kp ko turns place over hne R hR) U (by
    intro p hp
    simp only [List.mem_cons, List.not_mem_nil, or_false] at hp
    subst hp; assumption) (0, 0, 0)
theorem take {news' : Nat → List (Addr × Obj)} (hx : (x, instObj 59 d) ∈ news) (he : (ev, tupOf evs) ∈ news) (hi : IntsAre evs ns) (hlen : evs.length ≤ 63) (h0 : 0 ≤ place) (h1 : place < (ns.length : Int)) (hxd : @Ne Nat x d) (hed : @Ne Nat ev d)
    (U : ∀ t : Nat, Upd d (entDict w t1 t2 t3 t4 t5 ev turns kt place kp over ko) (entDict w t1 t2 t3 t4 t5 ev turns kt (place + 1) t over ko) news (news' t)) :
    Tell 900 w 56 [.ref x] news (fun r nw => ∃ t, (∃ u, r = .int (ns.getD place.toNat 0) u) ∧ nw = news' t) :=
  Tell.upd (P := fun r _ => ∃ u, r = .int (ns.getD place.toNat 0) u) (fp := [(x, instObj 59 d), (ev, tupOf evs)]) (fun R hR => take0 w x d ev t1 t2 t3 t4 t5 kt kp ko turns place over evs ns hi hlen h0 h1 hxd hed R hR) U (by
    intro p hp
    simp only [List.mem_cons, List.not_mem_nil, or_false] at hp
    rcases hp with rfl | rfl <;> assumption) 0
end
end Mine
local macro_rules | `(tactic| walk_at "mine k") => `(tactic| ((case k1 => k_asm); (case k2 => k_asm); (case k3 => k_asm); (case k4 => k_asm); (case k5 => k_asm); (case k6 => first | exact rfl | assumption); (case k7 => first | (simp only [depth_deeper, depth_caller]; decide) | (dsimp only [Around.deeper, ktrTop]; omega)); (case k8 => first | (simp only [units_deeper, units_caller]; decide) | (dsimp only [Around.deeper, ktrTop]; omega))))
local macro_rules | `(tactic| walk_at "call ref") => `(tactic| (k_here; (with_reducible show wpAny _ _ (PySem.call (Value.ref 35) _ _) _ _ _); k_dflt (refine' Mine.Tell.use (Mine.is_done ?q1 ?q2 ?q3 ?q4 ?q5) ?k1 ?k2 ?k3 ?k4 ?k5 ?k6 ?k7 ?k8 ?_; walk_at "mine k"; (case q1 => k_mem); (case q2 => k_mem); (case q3 => k_mem); (case q4 => omega); (case q5 => first | with_reducible assumption | assumption)); rintro _ h' tk' _ ⟨⟨_, e1⟩, e2⟩ F' N'; subst e1; subst e2; (try dsimp only); (try k_sweep)))
local macro_rules | `(tactic| walk_at "call ref") => `(tactic| (k_here; (with_reducible show wpAny _ _ (PySem.call (Value.ref 42) _ _) _ _ _); k_dflt (refine' Mine.Tell.use (Mine.is_between ?q1 ?q2 ?q3 ?q4 ?q5) ?k1 ?k2 ?k3 ?k4 ?k5 ?k6 ?k7 ?k8 ?_; walk_at "mine k"; (case q1 => k_mem); (case q2 => k_mem); (case q3 => k_mem); (case q4 => omega); (case q5 => first | with_reducible assumption | assumption)); rintro _ h' tk' _ ⟨⟨_, e1⟩, e2⟩ F' N'; subst e1; subst e2; (try dsimp only); (try k_sweep)))
local macro_rules | `(tactic| walk_at "call ref") => `(tactic| (k_here; (with_reducible show wpAny _ _ (PySem.call (Value.ref 84) _ _) _ _ _); k_dflt (refine' Mine.Tell.use (Mine.is_running ?q1 ?q2 ?q3 ?q4) ?k1 ?k2 ?k3 ?k4 ?k5 ?k6 ?k7 ?k8 ?_; walk_at "mine k"; (case q1 => k_mem); (case q2 => k_mem); (case q3 => k_mem); (case q4 => first | with_reducible assumption | exact rfl | (simp; done))); rintro _ h' tk' _ ⟨⟨_, e1⟩, e2⟩ F' N'; subst e1; subst e2; (try dsimp only); (try k_sweep)))
local macro_rules | `(tactic| walk_at "call ref") => `(tactic| (k_here; (with_reducible show wpAny _ _ (PySem.call (Value.ref 105) _ _) _ _ _); k_dflt (refine' Mine.Tell.use (Mine.top ?q1 ?q2 ?q3) ?k1 ?k2 ?k3 ?k4 ?k5 ?k6 ?k7 ?k8 ?_; walk_at "mine k"; (case q1 => k_mem); (case q2 => k_mem); (case q3 => k_mem)); rintro _ h' tk' _ ⟨⟨_, e1⟩, e2⟩ F' N'; subst e1; subst e2; (try dsimp only); (try k_sweep)))
local macro_rules | `(tactic| walk_at "call ref") => `(tactic| (k_here; (with_reducible show wpAny _ _ (PySem.call (Value.ref 49) _ _) _ _ _); k_dflt (refine' Mine.Tell.use (Mine.next_turn ?q1 ?q2 ?q3) ?k1 ?k2 ?k3 ?k4 ?k5 ?k6 ?k7 ?k8 ?_; walk_at "mine k"; (case q1 => k_mem); (case q2 => omega); (case q3 => (intro tU; k_upd))); rintro _ h' tk' _ ⟨tU, e1, e2⟩ F' N'; subst e1; subst e2; (try dsimp only); (try k_sweep)))
local macro_rules | `(tactic| walk_at "call ref") => `(tactic| (k_here; (with_reducible show wpAny _ _ (PySem.call (Value.ref 56) _ _) _ _ _); k_dflt (refine' Mine.Tell.use (Mine.take ?q1 ?q2 ?q3 ?q4 ?q5 ?q6 ?q7 ?q8 ?q9) ?k1 ?k2 ?k3 ?k4 ?k5 ?k6 ?k7 ?k8 ?_; walk_at "mine k"; (case q1 => k_mem); (case q2 => k_mem); (case q3 => with_reducible assumption); (case q4 => omega); (case q5 => omega); (case q6 => omega); (case q7 => omega); (case q8 => omega); (case q9 => (intro tU; k_upd))); rintro _ h' tk' _ ⟨tU, ⟨_, e1⟩, e2⟩ F' N'; subst e1; subst e2; (try dsimp only); (try k_sweep)))
namespace Mine
structure PE where
  ns : List Int
  turns : Int
  place : Int
  over : Int
def PE.done (p : PE) : Bool := decide (p.turns = 0) || decide (p.ns.length = 0)
def PE.between (p : PE) : Bool := decide (p.place = (p.ns.length : Int))
def PE.turn (p : PE) : PE := ⟨p.ns, if p.turns = -1 then -1 else p.turns - 1, 0, p.over + 1⟩
/-- the top first -/
def settle : List PE → List PE
  | [] => []
  | p :: r => if p.done = true then settle r else if p.between = true then (if p.turn.done = true then settle r else p.turn :: r) else p :: r
def nextR (l : List PE) : Option Int × List PE := match settle l with
  | [] => (none, [])
  | p :: r => (some (p.ns.getD p.place.toNat 0), ⟨p.ns, p.turns, p.place + 1, p.over⟩ :: r)

def Ent.pe (e : Ent) : PE := ⟨e.ns, e.turns, e.place, e.over⟩
/-- the stack lies with its bottom first -/
def pes (es : List Ent) : List PE := (es.map Ent.pe).reverse
theorem pes_app (es : List Ent) (e : Ent) : pes (es ++ [e]) = e.pe :: pes es := by simp [pes]
def Ent.Good (e : Ent) : Prop := IntsAre e.evs e.ns ∧ e.evs.length ≤ 4 ∧ 0 ≤ e.place ∧ e.place ≤ (e.ns.length : Int)
abbrev entDictOf (w : World) (e : Ent) : Obj := entDict w e.t1 e.t2 e.t3 e.t4 e.t5 e.ev e.turns e.kt e.place e.kp e.over e.ko
def entL (w : World) (e : Ent) : List (Addr × Obj) := [(e.x, instObj 59 e.d), (e.d, entDictOf w e), (e.ev, tupOf e.evs)]
def stk (es : List Ent) : List Value := es.map fun e => Value.ref e.x
def adrs (es : List Ent) : List Nat := es.flatMap fun e => [e.x, e.d, e.ev]
def plLed (w : World) (x d t l n : Nat) (es : List Ent) : List (Addr × Obj) := (x, instObj 129 d) :: (d, plDict w t l) :: (l, listOf (stk es).toArray n) :: es.flatMap (entL w)
theorem stk_app (es : List Ent) (e : Ent) : stk (es ++ [e]) = stk es ++ [Value.ref e.x] := by simp [stk]
theorem adrs_app (es : List Ent) (e : Ent) : adrs (es ++ [e]) = adrs es ++ [e.x, e.d, e.ev] := by simp [adrs]
theorem adrs_fst (w : World) (es : List Ent) : (es.flatMap (entL w)).map (·.1) = adrs es := by
  induction es with
  | nil => rfl
  | cons e r ih => simp only [List.flatMap_cons, List.map_append, ih, adrs, entL, List.map_cons, List.map_nil]
theorem mem_adrs {w : World} {es : List Ent} {p : Addr × Obj} (h : p ∈ es.flatMap (entL w)) : p.1 ∈ adrs es := by
  rw [← adrs_fst w]; exact List.mem_map.mpr ⟨p, h, rfl⟩
def plTop (w : World) (x d t l n : Nat) (es : List Ent) (e : Ent) (R : List (Addr × Obj)) : List (Addr × Obj) :=
  (x, instObj 129 d) :: (d, plDict w t l) :: (l, listOf (stk es ++ [Value.ref e.x]).toArray n) :: (e.x, instObj 59 e.d) :: (e.d, entDictOf w e) :: (e.ev, tupOf e.evs) :: (es.flatMap (entL w) ++ R)
theorem top_of_led {w : World} {x d t l n : Nat} {es : List Ent} {e : Ent} {R : List (Addr × Obj)} : ∀ p, p ∈ plTop w x d t l n es e R ↔ p ∈ plLed w x d t l n (es ++ [e]) ++ R := by
  intro p
  simp only [plTop, plLed, stk_app, List.flatMap_append, List.flatMap_cons, List.flatMap_nil, List.append_nil, entL, List.mem_cons, List.mem_append, List.not_mem_nil, or_false, List.cons_append, or_assoc]
  constructor
  · rintro (h | h | h | h | h | h | h | h) <;> (repeat (first | exact h | exact Or.inl h | apply Or.inr))
  · rintro (h | h | h | h | h | h | h | h) <;> (repeat (first | exact h | exact Or.inl h | apply Or.inr))
/-- what the addresses' being apart gives at the top -/
theorem apart_top {w : World} {x d l : Nat} {es : List Ent} {e : Ent} {R : List (Addr × Obj)} (hnd : ([x, d, l] ++ adrs (es ++ [e])).Nodup) (hoff : OwnOff R ([x, d, l] ++ adrs (es ++ [e]))) :
    ([x, d, l, e.x, e.d, e.ev] : List Nat).Nodup ∧ OwnOff (es.flatMap (entL w) ++ R) [x, d, l, e.x, e.d, e.ev] := by
  rw [adrs_app] at hnd hoff
  have hp : (([x, d, l] : List Nat) ++ (adrs es ++ [e.x, e.d, e.ev])).Perm (([x, d, l, e.x, e.d, e.ev] : List Nat) ++ adrs es) := by
    have := (List.perm_append_comm (l₁ := adrs es) (l₂ := ([e.x, e.d, e.ev] : List Nat))).append_left ([x, d, l] : List Nat)
    simpa using this
  have hn := hp.nodup_iff.mp hnd
  obtain ⟨h1, h2, h3⟩ := List.nodup_append.mp hn
  refine ⟨h1, ?_⟩
  intro p hp b hb
  rcases List.mem_append.mp hp with hq | hq
  · intro e'
    exact h3 b hb p.1 (mem_adrs hq) e'.symm
  · refine hoff p hq b ?_
    simp only [List.mem_append, List.mem_cons, List.not_mem_nil, or_false] at hb ⊢
    rcases hb with h | h | h | h | h | h <;> simp [h]
theorem apart_pre {x d l : Nat} {es es' : List Ent} {R : List (Addr × Obj)} (hpre : adrs es' <+: adrs es) (hnd : ([x, d, l] ++ adrs es).Nodup) (hoff : OwnOff R ([x, d, l] ++ adrs es)) :
    ([x, d, l] ++ adrs es').Nodup ∧ OwnOff R ([x, d, l] ++ adrs es') := by
  obtain ⟨q, hq⟩ := hpre
  rw [← hq] at hnd hoff
  rw [← List.append_assoc] at hnd
  refine ⟨(List.nodup_append.mp hnd).1, fun p hp b hb => hoff p hp b ?_⟩
  rw [← List.append_assoc]
  exact List.mem_append.mpr (.inl hb)
def msr (es : List Ent) : Nat := 2 * es.length + (match es.getLast? with | some e => if e.place = 0 then 0 else 1 | none => 0)
theorem msr_app (es : List Ent) (e : Ent) : msr (es ++ [e]) = 2 * es.length + 2 + (if e.place = 0 then 0 else 1) := by simp [msr]; omega
theorem msr_le (es : List Ent) : msr es ≤ 2 * es.length + 1 := by
  unfold msr
  split
  · split <;> omega
  · omega

section
variable {prog : Program} {w : World} {A : Around} {E : Value → Shared → Prop} {Q : Flow → Shared → Prop} {s : Shared} {env : Env} {h₀ : Heap} {L : Addr}
theorem While_same {test : PySem.Expr} {body : List Stmt} {pos : Pos} {m : PySem.Str → Option Value} {news : List (Addr × Obj)} (J : Nat → List (Addr × Obj) → Prop) (n₀ : Nat)
    (F : Fr h₀ L s.heap m) (N : News h₀ L s.heap news) (hJ : J n₀ news)
    (turn : ∀ n news₁ h₁ tk₁, J n news₁ → Fr h₀ L h₁ m → News h₀ L h₁ news₁ →
      wpAny (model prog w) A (isTrue test env (eval test env)) (fun b s₂ =>
        if b = true then wpAny (model prog w) A (execs body env) (WhileStep h₀ L s (fun n' m' nw => m' = m ∧ J n' nw) n) E s₂ else Q .next s₂) E { s with heap := h₁, toks := tk₁ })
    (hE : PassesOwn (model prog w) A env E := by passes_own) :
    wpAny (model prog w) A (exec (.While test body [] pos) env) Q E s := by
  refine While_inv (n₀ := n₀) (fun n' m' nw => m' = m ∧ J n' nw) F N ⟨rfl, hJ⟩ ?_ hE
  rintro n m₁ news₁ h₁ tk₁ F₁ N₁ ⟨rfl, hj⟩
  exact turn n news₁ h₁ tk₁ hj F₁ N₁
end
theorem nil_or_app {α : Type} (l : List α) : l = [] ∨ ∃ r a, l = r ++ [a] := by
  rcases List.eq_nil_or_concat l with h | ⟨r, a, h⟩
  · exact .inl h
  · exact .inr ⟨r, a, by rw [h, List.concat_eq_append]⟩
theorem pe_done {e : Ent} (h : e.evs.length = e.ns.length) : e.pe.done = (decide (e.turns = 0) || decide (e.evs.length = 0)) := by
  unfold PE.done Ent.pe; rw [h]
theorem pe_between {e : Ent} (h : e.evs.length = e.ns.length) : e.pe.between = decide (e.place = e.evs.length) := by
  unfold PE.between Ent.pe; rw [h]
theorem pe_turn_done {e : Ent} (h : e.evs.length = e.ns.length) : e.pe.turn.done = (decide ((if e.turns = -1 then -1 else e.turns - 1) = 0) || decide (e.evs.length = 0)) := by
  unfold PE.done PE.turn Ent.pe; rw [h]
end Mine
namespace Mine
theorem next0 (w : World) (x d t l n : Nat) (es : List Ent) (R : List (Addr × Obj)) (hg : ∀ e ∈ es, e.Good) (hlen : es.length ≤ 10) (hnd : ([x, d, l] ++ adrs es).Nodup) (hoff : OwnOff R ([x, d, l] ++ adrs es)) :
    Tell 800 w 147 [.ref x] (plLed w x d t l n es ++ R) (fun r nw => ∃ n' es', nw = plLed w x d t l n' es' ++ R ∧ adrs es' <+: adrs es ∧ (∀ e ∈ es', e.Good) ∧ es'.length ≤ 10 ∧ pes es' = (nextR (pes es)).2 ∧
      (match (nextR (pes es)).1 with | none => r = .none | some i => ∃ u, r = .int i u)) := by
  unfold Tell
  k_fill
  rintro dp un gd cn sc a ccd cl outer A₀ base h₀ L m mg mb mean ⟨hp, gens, drawn, toks, os⟩ Q E B F X N T hkind hd hu hret
  w_on
  have hMk : KstMark := kstMark
  refine wpAny_call ?_
  k_dflt cell_enter
  walk1
  walk1
  rename Fr _ _ _ _ => F1
  rename News _ _ _ _ => N1
  refine While_same (fun n nw => ∃ n' es', nw = plLed w x d t l n' es' ++ R ∧ n = msr es' ∧ adrs es' <+: adrs es ∧ (∀ e ∈ es', e.Good) ∧ es'.length ≤ 10 ∧ settle (pes es') = settle (pes es)) (msr es) F1 N1 ⟨n, es, rfl, rfl, List.prefix_rfl, hg, hlen, rfl⟩ ?_
  clear F1 N1
  rintro n1 nw h1 tk1 ⟨n2, es2, rfl, rfl, hpre, hg2, hlen2, hset⟩ F1 N1
  rcases nil_or_app es2 with rfl | ⟨es3, e, rfl⟩
  · simp only [plLed, stk, List.map_nil, List.flatMap_nil, List.cons_append, List.nil_append] at N1
    k_steps
    rename Fr h₀ _ _ _ => F2
    rename News h₀ _ _ _ => N2
    refine hret _ _ _ _ ?_ F2 N2
    have hs : settle (pes es) = [] := hset.symm
    refine ⟨n2, [], rfl, hpre, hg2, hlen2, ?_, ?_⟩
    · simp only [nextR, hs]; rfl
    · simp only [nextR, hs]
  · obtain ⟨hn6, ho6⟩ := apart_top (w := w) (apart_pre hpre hnd hoff).1 (apart_pre hpre hnd hoff).2
    have N2 : News _ _ _ (plTop w x d t l n2 es3 e R) := fun p hp => N1 p (top_of_led p |>.mp hp)
    clear N1
    unfold plTop at N2
    simp only [List.nodup_cons, List.mem_cons, List.not_mem_nil, or_false, not_or, List.nodup_nil, and_true, not_false_eq_true] at hn6
    obtain ⟨⟨z1, z2, z3, z4, z5⟩, ⟨z6, z7, z8, z9⟩, ⟨z10, z11, z12⟩, ⟨z13, z14⟩, z15⟩ := hn6
    obtain ⟨hi, hl4, hp0, hp1⟩ := hg2 e (by simp)
    have hl := hi.length
    have hsl : (stk es3).length ≤ 9 := by simp [stk] at hlen2 ⊢; omega
    have hg3 : ∀ e' ∈ es3, e'.Good := fun e' h => hg2 e' (by simp [h])
    have hpre3 : adrs es3 <+: adrs es := List.IsPrefix.trans (by rw [adrs_app]; exact List.prefix_append _ _) hpre
    rw [pes_app] at hset
    have hne : (!(stk es3 ++ [Value.ref e.x]).isEmpty) = true := by simp
    have f1 := pe_done hl
    have f2 := pe_between hl
    have f3 := pe_turn_done hl
    cases hdone : (decide (e.turns = 0) || decide (e.evs.length = 0)) with
    | true =>
      rw [hdone] at f1
      k_steps
      rename Fr _ _ _ _ => F2
      rename News _ _ _ _ => N3
      refine WhileStep.intro (n' := msr es3) (news₂ := plLed w x d t l (n2 + 1) es3 ++ R) F2 (fun p hp => N3 p ?_) ?_ ⟨rfl, n2 + 1, es3, rfl, rfl, hpre3, hg3, by simp at hlen2; omega, ?_⟩
      · simp only [plLed, List.cons_append, List.mem_cons, List.mem_append] at hp ⊢
        rcases hp with h | h | h | h | h <;> simp [h]
      · have := msr_le es3
        rw [msr_app]; split <;> omega
      · rw [← hset, settle, if_pos f1]
    | false =>
      rw [hdone] at f1
      have f1' : ¬ e.pe.done = true := by rw [f1]; decide
      cases hbt : decide (e.place = e.evs.length) with
      | false =>
        rw [hbt] at f2
        have f2' : ¬ e.pe.between = true := by rw [f2]; decide
        have h1 : e.place < (e.ns.length : Int) := by simp at hbt; omega
        k_steps
        rename Fr h₀ _ _ _ => F2
        rename News h₀ _ _ _ => N3
        rw [settle, if_neg f1', if_neg f2'] at hset
        obtain ⟨k, N4⟩ : ∃ k, News h₀ _ _ (plTop w x d t l n2 es3 { e with place := e.place + 1, kp := k } R) := ⟨_, N3⟩
        refine hret _ _ _ (plLed w x d t l n2 (es3 ++ [{ e with place := e.place + 1, kp := k }]) ++ R) ⟨n2, _, rfl, ?_, ?_, ?_, ?_, ?_⟩ F2 (fun p hp => N4 p ((top_of_led p).mpr hp))
        · rw [adrs_app]; rw [adrs_app] at hpre; exact hpre
        · intro e' he'
          rcases List.mem_append.mp he' with h | h
          · exact hg3 e' h
          · rw [List.mem_singleton.mp h]
            exact ⟨hi, hl4, by dsimp only; omega, by dsimp only; omega⟩
        · simpa using hlen2
        · rw [pes_app, nextR, ← hset]; rfl
        · rw [nextR, ← hset]; exact ⟨_, rfl⟩
      | true =>
        rw [hbt] at f2
        cases hd2 : (decide ((if e.turns = -1 then -1 else e.turns - 1) = 0) || decide (e.evs.length = 0)) with
        | true =>
          rw [hd2] at f3
          k_steps
          rename Fr _ _ _ _ => F2
          rename News _ _ _ _ => N3
          refine WhileStep.intro (n' := msr es3) (news₂ := plLed w x d t l (n2 + 1) es3 ++ R) F2 (fun p hp => N3 p ?_) ?_ ⟨rfl, n2 + 1, es3, rfl, rfl, hpre3, hg3, by simp at hlen2; omega, ?_⟩
          · simp only [plLed, List.cons_append, List.mem_cons, List.mem_append] at hp ⊢
            rcases hp with h | h | h | h | h <;> simp [h]
          · have := msr_le es3
            rw [msr_app]; split <;> omega
          · rw [← hset, settle, if_neg f1', if_pos f2, if_pos f3]
        | false =>
          rw [hd2] at f3
          have f3' : ¬ e.pe.turn.done = true := by rw [f3]; decide
          have hz : e.place ≠ 0 := by
            intro h0
            have : e.evs.length = 0 := by simp at hbt; omega
            simp [this] at hdone
          k_steps
          rename Fr _ _ _ _ => F2
          rename News _ _ _ _ => N3
          obtain ⟨k1, k2, k3, N4⟩ : ∃ k1 k2 k3, News _ _ _ (plTop w x d t l n2 es3 { e with turns := (if e.turns = -1 then -1 else e.turns - 1), kt := k1, place := 0, kp := k2, over := e.over + 1, ko := k3 } R) := ⟨_, _, _, N3⟩
          refine WhileStep.intro (n' := msr (es3 ++ [{ e with turns := (if e.turns = -1 then -1 else e.turns - 1), kt := k1, place := 0, kp := k2, over := e.over + 1, ko := k3 }])) F2 (fun p hp => N4 p ((top_of_led p).mpr hp)) ?_ ⟨rfl, n2, _, rfl, rfl, ?_, ?_, ?_, ?_⟩
          · rw [msr_app, msr_app, if_neg hz]; simp
          · rw [adrs_app]; rw [adrs_app] at hpre; exact hpre
          · intro e' he'
            rcases List.mem_append.mp he' with h | h
            · exact hg3 e' h
            · rw [List.mem_singleton.mp h]
              exact ⟨hi, hl4, by simp, by simp⟩
          · simpa using hlen2
          · rw [← hset, pes_app, settle]
            have e1 : (Ent.pe { e with turns := (if e.turns = -1 then -1 else e.turns - 1), kt := k1, place := 0, kp := k2, over := e.over + 1, ko := k3 }) = e.pe.turn := rfl
            have e2 : ¬ e.pe.turn.between = true := by
              intro h
              have h' : (0 : Int) = (e.ns.length : Int) := of_decide_eq_true h
              have : e.evs.length = 0 := by omega
              simp [this] at hdone
            rw [e1, if_neg f3', if_neg e2]
            conv => rhs; rw [settle, if_neg f1', if_pos f2, if_neg f3']
end Mine
namespace Mine
structure Pr where
  a : Nat
  lap : Int
  t : Nat
  ev : Int
  u : Nat
structure Ow where
  x : Nat
  l : Nat
  n1 : Nat
  n2 : Nat
  lap : Int
  kt : Nat
  ps : List Pr
def Pr.p (p : Pr) : Int × Int := (p.lap, p.ev)
def Pr.o (p : Pr) : Addr × Obj := (p.a, tupOf [.int p.lap p.t, .int p.ev p.u])
def prs (ps : List Pr) : List Value := ps.map fun p => Value.ref p.a
def Ow.oe (o : Ow) : List (Int × Int) × Int := (o.ps.map Pr.p, o.lap)
def owL (o : Ow) : List (Addr × Obj) := (o.x, listOf #[.ref o.l, .int o.lap o.kt] o.n1) :: (o.l, listOf (prs o.ps).toArray o.n2) :: o.ps.map Pr.o
def ostk (os : List Ow) : List Value := os.map fun o => Value.ref o.x
def oadr (os : List Ow) : List Nat := os.flatMap fun o => o.x :: o.l :: o.ps.map Pr.a
def oes (os : List Ow) : List (List (Int × Int) × Int) := (os.map Ow.oe).reverse
def ownLed (ol n : Nat) (os : List Ow) : List (Addr × Obj) := (ol, listOf (ostk os).toArray n) :: os.flatMap owL
theorem oes_app (os : List Ow) (o : Ow) : oes (os ++ [o]) = o.oe :: oes os := by simp [oes]
theorem ostk_app (os : List Ow) (o : Ow) : ostk (os ++ [o]) = ostk os ++ [Value.ref o.x] := by simp [ostk]
theorem oadr_app (os : List Ow) (o : Ow) : oadr (os ++ [o]) = oadr os ++ (o.x :: o.l :: o.ps.map Pr.a) := by simp [oadr]
theorem prs_cons (p : Pr) (ps : List Pr) : prs (p :: ps) = Value.ref p.a :: prs ps := rfl
theorem owL_fst (o : Ow) : (owL o).map (·.1) = o.x :: o.l :: o.ps.map Pr.a := by simp [owL, Pr.o]
theorem oadr_fst (os : List Ow) : (os.flatMap owL).map (·.1) = oadr os := by
  induction os with
  | nil => rfl
  | cons o r ih =>
    have e : oadr (o :: r) = (o.x :: o.l :: o.ps.map Pr.a) ++ oadr r := by simp [oadr]
    rw [List.flatMap_cons, List.map_append, ih, owL_fst, e]
theorem mem_oadr {os : List Ow} {p : Addr × Obj} (h : p ∈ os.flatMap owL) : p.1 ∈ oadr os := by
  rw [← oadr_fst]; exact List.mem_map.mpr ⟨p, h, rfl⟩
/-- the top first -/
def osettle : List (List (Int × Int) × Int) → List (List (Int × Int) × Int)
  | [] => []
  | (ps, lap) :: r => if ps.isEmpty then osettle r else (ps, lap) :: r
def onextR (l : List (List (Int × Int) × Int)) : Option Int × List (List (Int × Int) × Int) := match osettle l with
  | [] => (none, [])
  | ([], _) :: r => (none, r)
  | (p :: ps, _) :: r => (some p.2, (ps, p.1) :: r)
def Ow.Good (o : Ow) : Prop := o.ps.length ≤ 200
def ownTop (ol n : Nat) (os : List Ow) (o : Ow) (R : List (Addr × Obj)) : List (Addr × Obj) :=
  (ol, listOf (ostk os ++ [Value.ref o.x]).toArray n) :: (o.x, listOf #[.ref o.l, .int o.lap o.kt] o.n1) :: (o.l, listOf (prs o.ps).toArray o.n2) :: (o.ps.map Pr.o ++ (os.flatMap owL ++ R))
theorem otop_of_led {ol n : Nat} {os : List Ow} {o : Ow} {R : List (Addr × Obj)} : ∀ p, p ∈ ownTop ol n os o R ↔ p ∈ ownLed ol n (os ++ [o]) ++ R := by
  intro p
  simp only [ownTop, ownLed, ostk_app, List.flatMap_append, List.flatMap_cons, List.flatMap_nil, List.append_nil, owL, List.mem_cons, List.mem_append, List.cons_append, or_assoc]
  constructor
  · rintro (h | h | h | h | h | h) <;> (repeat (first | exact h | exact Or.inl h | apply Or.inr))
  · rintro (h | h | h | h | h | h) <;> (repeat (first | exact h | exact Or.inl h | apply Or.inr))
def ownTopC (ol n : Nat) (os : List Ow) (o : Ow) (p : Pr) (ps : List Pr) (R : List (Addr × Obj)) : List (Addr × Obj) :=
  (ol, listOf (ostk os ++ [Value.ref o.x]).toArray n) :: (o.x, listOf #[.ref o.l, .int o.lap o.kt] o.n1) :: (o.l, listOf (Value.ref p.a :: prs ps).toArray o.n2) :: (p.a, tupOf [.int p.lap p.t, .int p.ev p.u]) :: (ps.map Pr.o ++ (os.flatMap owL ++ R))
theorem oapart {ol : Nat} {os : List Ow} {o : Ow} {R : List (Addr × Obj)} (hnd : (ol :: oadr (os ++ [o])).Nodup) (hoff : OwnOff R (ol :: oadr (os ++ [o]))) :
    ((ol :: o.x :: o.l :: o.ps.map Pr.a : List Nat)).Nodup ∧ OwnOff (os.flatMap owL ++ R) (ol :: o.x :: o.l :: o.ps.map Pr.a) := by
  rw [oadr_app] at hnd hoff
  have hp : (ol :: (oadr os ++ (o.x :: o.l :: o.ps.map Pr.a)) : List Nat).Perm ((ol :: o.x :: o.l :: o.ps.map Pr.a) ++ oadr os) := by
    have := (List.perm_append_comm (l₁ := oadr os) (l₂ := (o.x :: o.l :: o.ps.map Pr.a : List Nat))).cons ol
    simpa using this
  have hn := hp.nodup_iff.mp hnd
  obtain ⟨h1, h2, h3⟩ := List.nodup_append.mp hn
  refine ⟨h1, ?_⟩
  intro p hp' b hb
  rcases List.mem_append.mp hp' with hq | hq
  · intro e'
    exact h3 b hb p.1 (mem_oadr hq) e'.symm
  · refine hoff p hq b ?_
    exact hp.mem_iff.mpr (List.mem_append.mpr (.inl hb))
theorem oapart_sub {ol : Nat} {os os' : List Ow} {R : List (Addr × Obj)} (hs : List.Sublist (oadr os') (oadr os)) (hnd : (ol :: oadr os).Nodup) (hoff : OwnOff R (ol :: oadr os)) :
    (ol :: oadr os').Nodup ∧ OwnOff R (ol :: oadr os') :=
  ⟨hnd.sublist (hs.cons_cons ol), fun p hp b hb => hoff p hp b ((hs.cons_cons ol).subset hb)⟩
end Mine
namespace Mine
theorem own_next0 (w : World) (ol n : Nat) (os : List Ow) (R : List (Addr × Obj)) (hg : ∀ o ∈ os, o.Good) (hlen : os.length ≤ 10) (hnd : (ol :: oadr os).Nodup) (hoff : OwnOff R (ol :: oadr os)) :
    Tell 800 w 159 [.ref ol] (ownLed ol n os ++ R) (fun r nw => ∃ n' os', nw = ownLed ol n' os' ++ R ∧ List.Sublist (oadr os') (oadr os) ∧ (∀ o ∈ os', o.Good) ∧ os'.length ≤ 10 ∧ oes os' = (onextR (oes os)).2 ∧
      (match (onextR (oes os)).1 with | none => r = .none | some i => ∃ u, r = .int i u)) := by
  unfold Tell
  k_fill
  rintro dp un gd cn sc a ccd cl outer A₀ base h₀ L m mg mb mean ⟨hp, gens, drawn, toks, os0⟩ Q E B F X N T hkind hd hu hret
  w_on
  have hMk : KstMark := kstMark
  refine wpAny_call ?_
  k_dflt cell_enter
  walk1
  walk1
  rename Fr _ _ _ _ => F1
  rename News _ _ _ _ => N1
  refine While_same (fun k nw => ∃ n' os', nw = ownLed ol n' os' ++ R ∧ k = os'.length ∧ List.Sublist (oadr os') (oadr os) ∧ (∀ o ∈ os', o.Good) ∧ os'.length ≤ 10 ∧ osettle (oes os') = osettle (oes os)) os.length F1 N1 ⟨n, os, rfl, rfl, List.Sublist.refl _, hg, hlen, rfl⟩ ?_
  clear F1 N1
  rintro n1 nw h1 tk1 ⟨n2, os2, rfl, rfl, hsub, hg2, hlen2, hset⟩ F1 N1
  rcases nil_or_app os2 with rfl | ⟨os3, o, rfl⟩
  · simp only [ownLed, ostk, List.map_nil, List.flatMap_nil, List.cons_append, List.nil_append] at N1
    k_steps
    rename Fr h₀ _ _ _ => F2
    rename News h₀ _ _ _ => N2
    have hs : osettle (oes os) = [] := hset.symm
    refine hret _ _ _ (ownLed ol n2 [] ++ R) ⟨n2, [], rfl, hsub, hg2, hlen2, ?_, ?_⟩ F2 (fun p hp => N2 p ?_)
    · simp only [onextR, hs]; rfl
    · simp only [onextR, hs]
    · simp only [ownLed, ostk, List.map_nil, List.flatMap_nil, List.cons_append, List.nil_append] at hp
      simp [hp]
  · obtain ⟨hn6, ho6⟩ := oapart (oapart_sub hsub hnd hoff).1 (oapart_sub hsub hnd hoff).2
    have N2 : News _ _ _ (ownTop ol n2 os3 o R) := fun p hp => N1 p (otop_of_led p |>.mp hp)
    clear N1
    obtain ⟨ox, oll, m1, m2, lap, kt, ps⟩ := o
    have hsl : (ostk os3).length ≤ 9 := by simp [ostk] at hlen2 ⊢; omega
    have hg3 : ∀ e' ∈ os3, e'.Good := fun e' h => hg2 e' (by simp [h])
    have hsub3 : List.Sublist (oadr os3) (oadr os) := List.Sublist.trans (by rw [oadr_app]; exact List.sublist_append_left _ _) hsub
    have hgo := hg2 _ (List.mem_append.mpr (.inr (.head _)))
    rw [oes_app] at hset
    have hne : (!(ostk os3 ++ [Value.ref ox]).isEmpty) = true := by simp
    have hne' : ((ostk os3 ++ [Value.ref ox]).isEmpty) = false := by simp
    unfold ownTop at N2
    dsimp only at N2 hn6 ho6
    have hT : OwnOff (ps.map Pr.o ++ (os3.flatMap owL ++ R)) [ol, ox, oll] := by
      intro p hp b hb
      rcases List.mem_append.mp hp with hq | hq
      · obtain ⟨q, hq1, rfl⟩ := List.mem_map.mp hq
        have : q.a ∈ ps.map Pr.a := List.mem_map.mpr ⟨q, hq1, rfl⟩
        simp only [List.nodup_cons, List.mem_cons, not_or] at hn6
        simp only [List.mem_cons, List.not_mem_nil, or_false] at hb
        rintro rfl
        simp only [Pr.o] at hb
        rcases hb with h | h | h
        · exact hn6.1.2.2 (h ▸ this)
        · exact hn6.2.1.2 (h ▸ this)
        · exact hn6.2.2.1 (h ▸ this)
      · refine ho6 p hq b ?_
        simp only [List.mem_cons, List.not_mem_nil, or_false] at hb ⊢
        rcases hb with h | h | h <;> simp [h]
    have hnn := hn6
    simp only [List.nodup_cons, List.mem_cons, not_or] at hnn
    obtain ⟨⟨hne1, hne2, -⟩, ⟨hne3, -⟩, -, -⟩ := hnn
    have hN1 : @Ne Nat ol ox := hne1
    have hN2 : @Ne Nat ol oll := hne2
    have hN3 : @Ne Nat ox oll := hne3
    cases ps with
    | nil =>
      simp only [prs, List.map_nil, List.nil_append] at N2 hT
      k_steps
      rename Fr _ _ _ _ => F2
      rename News _ _ _ _ => N3
      refine WhileStep.intro (n' := os3.length) (news₂ := ownLed ol (n2 + 1) os3 ++ R) F2 (fun p hp => N3 p ?_) (by simp) ⟨rfl, n2 + 1, os3, rfl, rfl, hsub3, hg3, by simp at hlen2; omega, ?_⟩
      · simp only [ownLed, List.cons_append, List.mem_cons, List.mem_append] at hp ⊢
        rcases hp with h | h | h <;> simp [h]
      · rw [← hset]; simp [osettle, Ow.oe]
    | cons p ps =>
      simp only [prs_cons, List.map_cons, List.cons_append, Pr.o] at N2 hT
      have hpl : (prs ps).length ≤ 200 := by simp [Ow.Good, prs] at hgo ⊢; omega
      have hTt : OwnOff (ps.map Pr.o ++ (os3.flatMap owL ++ R)) [ol, ox, oll] := fun q hq b hb => hT q (.tail _ hq) b hb
      have hpa1 : @Ne Nat p.a ol := hT _ (.head _) _ (.head _)
      have hpa2 : @Ne Nat p.a ox := hT _ (.head _) _ (.tail _ (.head _))
      have hpa3 : @Ne Nat p.a oll := hT _ (.head _) _ (.tail _ (.tail _ (.head _)))
      clear hT
      have hpe : ((Value.ref p.a :: prs ps).isEmpty) = false := rfl
      k_steps
      rename Fr h₀ _ _ _ => F2
      rename News h₀ _ _ _ => N3
      have hset' : osettle (oes os) = (p.p :: ps.map Pr.p, lap) :: oes os3 := by rw [← hset]; rfl
      obtain ⟨k, N4⟩ : ∃ k, News h₀ _ _ ((ol, listOf (ostk os3 ++ [Value.ref ox]).toArray n2) :: (ox, listOf #[.ref oll, .int p.lap k] m1) :: (oll, listOf (prs ps).toArray (m2 + 1)) :: (p.a, tupOf [.int p.lap p.t, .int p.ev p.u]) :: (ps.map Pr.o ++ (os3.flatMap owL ++ R))) := ⟨_, fun q hq => N3 q (List.mem_cons_of_mem _ (List.mem_cons_of_mem _ (List.mem_cons_of_mem _ hq)))⟩
      refine hret _ _ _ (ownLed ol n2 (os3 ++ [⟨ox, oll, m1, m2 + 1, p.lap, k, ps⟩]) ++ R) ⟨n2, _, rfl, ?_, ?_, ?_, ?_, ?_⟩ F2 (fun q hq => N4 q ?_)
      · refine List.Sublist.trans ?_ hsub
        rw [oadr_app, oadr_app]
        refine List.Sublist.append_left ?_ _
        exact List.Sublist.cons_cons _ (List.Sublist.cons_cons _ (List.sublist_cons_self _ _))
      · intro o' ho'
        rcases List.mem_append.mp ho' with h | h
        · exact hg3 o' h
        · rw [List.mem_singleton.mp h]
          simp [Ow.Good] at hgo ⊢; omega
      · simpa using hlen2
      · rw [oes_app, onextR, hset']; rfl
      · rw [onextR, hset']; exact ⟨_, rfl⟩
      · have hm := (otop_of_led q).mpr hq
        unfold ownTop at hm
        simp only [List.mem_cons] at hm ⊢
        rcases hm with h | h | h | h <;> simp [h]
end Mine
namespace Mine
section
variable {prog : Program} {w : World} {A : Around} {E : Value → Shared → Prop} {s : Shared} {env : Env} {h₀ : Heap} {x : PySem.Str} {px : Pos} {body : List Stmt} {Q : Flow → Shared → Prop}
theorem for_range {r : Addr} {a₀ b₀ : Int} {t₀ u₀ v₀ : Tok} {n : Nat} {m₀ : PySem.Str → Option Value} {news : List (Addr × Obj)} (J : Nat → (PySem.Str → Option Value) → List (Addr × Obj) → Prop)
    (hh : A.handled = none) (hr : IsRange s.heap r a₀ b₀ 1 t₀ u₀ v₀) (hsmall : Builtin.Range.small a₀ b₀ 1 = true) (hn : Builtin.Range.rangeSize a₀ b₀ 1 = (n : Int)) (F : Fr h₀ env.locals s.heap m₀) (N : News h₀ env.locals s.heap news) (hj : J 0 m₀ news)
    (turn : ∀ (i : Nat) t m₁ nx (s₁ : Shared) own, i < n → J i m₁ nx → OwnOff own (nx.map (·.1)) → Fr h₀ env.locals s₁.heap m₁ → News h₀ env.locals s₁.heap (nx ++ own) →
      wpAny (model prog w) A (assign (.Name x px) env (.int (a₀ + i) t)) (fun _ s₃ => wpAny (model prog w) A (execs body env) (fun f s₄ => f = .next ∧ InvEndG h₀ env.locals (J (i + 1)) own s₁ s₄) E s₃) E s₁)
    (done : ∀ m₁ nx h tk, J n m₁ nx → Fr h₀ env.locals h m₁ → News h₀ env.locals h nx → Q .next { s with heap := h, toks := tk }) :
    wpAny (model prog w) A (pyIter (.ref r)) (fun it s₂ => LoopAtT prog w A h₀ env (.Name x px) body Q E it s₂) E s := by
  refine wpAny_pyIter_range hr hsmall ?_
  have W : Walks prog w A s.heap.objs.size [s.heap.objs.size] [s.heap.objs.size] n (fun i v => i < n ∧ ∃ t, v = .int (a₀ + i * 1) t)
      (fun i h => IsRangeIter h s.heap.objs.size (a₀ + (i : Nat) * 1) ((n : Int) - (i : Nat)) 1) := (Walks.range hh _ a₀ 1 n).bound
  refine ⟨_, _, _, n, _, _, m₀, news, J, rfl, W, ?_, ?_, ?_, (by show IsRangeIter _ _ _ _ _; rw [hn]; simpa using Heap.get?_push_size _ rfl), F.push _, (fun p hp => ⟨Heap.get?_push_of_some _ (N p hp).1, (N p hp).2⟩), (fun i s' v Q' _ h => wpAny_pure h), hj, ?_, ?_⟩
  · intro hm
    exact absurd F.ns.lt ((List.mem_singleton.mp hm) ▸ Nat.lt_irrefl _)
  · intro b hb
    rw [List.mem_singleton.mp hb]
    exact next_is_new F
  · intro p hp hI
    exact absurd (Heap.lt_size (N p hp).1) ((List.mem_singleton.mp hI) ▸ Nat.lt_irrefl _)
  · rintro i v m₁ news₁ s₁ own hi ⟨_, t, rfl⟩ hJ hoff hown hget hfp hst F₁ N₁
    have hI0 : h₀.get? s.heap.objs.size = none := next_is_new F
    have hIown : ∃ oI, (s.heap.objs.size, oI) ∈ own := ⟨_, hfp _ (List.mem_singleton.mpr rfl) hI0 _ hst⟩
    obtain ⟨oI, hIown⟩ := hIown
    have hsep : OwnOff own (news₁.map (·.1)) := by
      intro p hp b hb e
      obtain ⟨q, hq, rfl⟩ := List.mem_map.mp hb
      exact hoff q hq (e ▸ hown p hp)
    have N₂ : News h₀ env.locals s₁.heap (news₁ ++ own) := fun p hp => N₁ p ((List.mem_append.mp hp).elim (fun h => List.mem_append.mpr (.inr h)) fun h => List.mem_append.mpr (.inl h))
    have e1 : a₀ + (i : Int) * 1 = a₀ + (i : Int) := by omega
    rw [e1]
    refine wpAny_mono (turn i t m₁ news₁ s₁ own hi hJ hsep F₁ N₂) (fun _ s₃ h₃ => wpAny_mono h₃ (fun f s₄ h₄ => ?_) fun _ _ e => e) fun _ _ e => e
    obtain ⟨rfl, h', tk, m', news', nx, e, F', N', hn', ho, ha, hm⟩ := h₄
    refine ⟨rfl, h', tk, m', nx, e, F', fun p hp => N' p ((List.mem_append.mp hp).elim (ho p) (hn' p)), fun p hp hq => ?_, hm⟩
    exact ha _ hIown p.1 (List.mem_map.mpr ⟨p, hp, rfl⟩) (List.mem_singleton.mp hq).symm
  · rintro h' tk m' news' F' N' _ hJ
    exact done m' news' h' tk hJ F' N'
/-- the range that a loop goes over, and what stands at its start -/
def ForSrc (h₀ : Heap) (L : Addr) (n : Nat) (J : Nat → (PySem.Str → Option Value) → List (Addr × Obj) → Prop) (s : Shared) (xv : Value) (s₁ : Shared) : Prop :=
  ∃ r b t₀ u₀ v₀ m₀ news, xv = .ref r ∧ (∃ h tk, s₁ = { s with heap := h, toks := tk }) ∧ IsRange s₁.heap r 0 b 1 t₀ u₀ v₀ ∧ Builtin.Range.small 0 b 1 = true ∧ Builtin.Range.rangeSize 0 b 1 = (n : Int) ∧
      Fr h₀ L s₁.heap m₀ ∧ News h₀ L s₁.heap news ∧ J 0 m₀ news
theorem ForSrc.intro {L : Addr} {n : Nat} {J : Nat → (PySem.Str → Option Value) → List (Addr × Obj) → Prop} {r : Addr} {b : Int} {t₀ u₀ v₀ : Tok} {m₀ : PySem.Str → Option Value} {news nx : List (Addr × Obj)} {h : Heap} {tk : Nat} (hr : IsRange h r 0 b 1 t₀ u₀ v₀) (hsm : Builtin.Range.small 0 b 1 = true) (hn : Builtin.Range.rangeSize 0 b 1 = (n : Int))
    (F : Fr h₀ L h m₀) (N : News h₀ L h news) (hs : ∀ p ∈ nx, p ∈ news) (hj : J 0 m₀ nx) : ForSrc h₀ L n J s (.ref r) { s with heap := h, toks := tk } :=
  ⟨r, b, t₀, u₀, v₀, m₀, nx, rfl, ⟨h, tk, rfl⟩, hr, hsm, hn, F, fun p hp => N p (hs p hp), hj⟩
/-- a loop over range(b) whose ledger grows -/
theorem For_up {iter : PySem.Expr} {pos : Pos} (n : Nat) (J : Nat → (PySem.Str → Option Value) → List (Addr × Obj) → Prop) (hh : A.handled = none)
    (hit : wpAny (model prog w) A (eval iter env) (ForSrc h₀ env.locals n J s) E s)
    (turn : ∀ (i : Nat) t m₁ nx (s₁ : Shared) own, i < n → J i m₁ nx → OwnOff own (nx.map (·.1)) → Fr h₀ env.locals s₁.heap m₁ → News h₀ env.locals s₁.heap (nx ++ own) →
      wpAny (model prog w) A (assign (.Name x px) env (.int (0 + i) t)) (fun _ s₃ => wpAny (model prog w) A (execs body env) (fun f s₄ => f = .next ∧ InvEndG h₀ env.locals (J (i + 1)) own s₁ s₄) E s₃) E s₁)
    (done : ∀ m₁ nx h tk, J n m₁ nx → Fr h₀ env.locals h m₁ → News h₀ env.locals h nx → Q .next { s with heap := h, toks := tk })
    (hs : ∀ x, foldedSetIterable iter env x = pure x)
    (hE : PassesOwn (model prog w) A env E := by passes_own) :
    wpAny (model prog w) A (exec (.For (.Name x px) iter body [] pos) env) Q E s := by
  refine For_invT h₀ (wpAny_mono hit (fun xv s₁ h => ?_) fun _ _ e => e) hs hE
  obtain ⟨r, b, t₀, u₀, v₀, m₀, news, rfl, ⟨h, tk, rfl⟩, hr, hsm, hn, F, N, hj⟩ := h
  exact for_range (n := n) J hh hr hsm hn F N hj turn fun m₁ nx h' tk' hJ F' N' => done m₁ nx h' tk' hJ F' N'
def ForSrcB (h₀ : Heap) (L : Addr) (lim : Nat) (J : Nat → (PySem.Str → Option Value) → List (Addr × Obj) → Prop) (s : Shared) (xv : Value) (s₁ : Shared) : Prop := ∃ n, n ≤ lim ∧ ForSrc h₀ L n J s xv s₁
theorem For_upB {iter : PySem.Expr} {pos : Pos} {m₀ : PySem.Str → Option Value} (_F : Fr h₀ env.locals s.heap m₀) (lim : Nat) (J : Nat → (PySem.Str → Option Value) → List (Addr × Obj) → Prop) (hh : A.handled = none)
    (hit : wpAny (model prog w) A (eval iter env) (ForSrcB h₀ env.locals lim J s) E s)
    (turn : ∀ (i : Nat) t m₁ nx (s₁ : Shared) own, i < lim → J i m₁ nx → OwnOff own (nx.map (·.1)) → Fr h₀ env.locals s₁.heap m₁ → News h₀ env.locals s₁.heap (nx ++ own) →
      wpAny (model prog w) A (assign (.Name x px) env (.int (0 + i) t)) (fun _ s₃ => wpAny (model prog w) A (execs body env) (fun f s₄ => f = .next ∧ InvEndG h₀ env.locals (J (i + 1)) own s₁ s₄) E s₃) E s₁)
    (done : ∀ n m₁ nx h tk, J n m₁ nx → Fr h₀ env.locals h m₁ → News h₀ env.locals h nx → Q .next { s with heap := h, toks := tk })
    (hs : ∀ x, foldedSetIterable iter env x = pure x)
    (hE : PassesOwn (model prog w) A env E := by passes_own) :
    wpAny (model prog w) A (exec (.For (.Name x px) iter body [] pos) env) Q E s := by
  refine For_invT h₀ (wpAny_mono hit (fun xv s₁ h => ?_) fun _ _ e => e) hs hE
  obtain ⟨n, hl, r, b, t₀, u₀, v₀, m₀, news, rfl, ⟨h, tk, rfl⟩, hr, hsm, hn, F, N, hj⟩ := h
  exact for_range (n := n) J hh hr hsm hn F N hj (fun i t m₁ nx s₁ own hi => turn i t m₁ nx s₁ own (Nat.lt_of_lt_of_le hi hl)) fun m₁ nx h' tk' hJ F' N' => done n m₁ nx h' tk' hJ F' N'
end
end Mine
namespace Mine
open PyProof.Rows.LCg
section
variable {prog : Program} {w : World} {A : Around} {E : Value → Shared → Prop} {s : Shared} {h₀ : Heap} {L : Addr} {m : PySem.Str → Option Value} {env : Env}
def SrcTup (ax : Addr) (its : Array Value) (news : List (Addr × Obj)) : Prop := ∃ o, (ax, o) ∈ news ∧ o.cls = .type "tuple" ∧ ∃ n, o.data = .seq its n
theorem SrcTup.tup {h : Heap} {ax : Addr} {its : Array Value} {news : List (Addr × Obj)} (x : SrcTup ax its news) (N : News h₀ L h news) : h.IsTuple ax its := by
  obtain ⟨o, hm, r⟩ := x
  exact ⟨o, (N _ hm).1, r⟩
theorem tup_st {ax I : Addr} {its : Array Value} : ∀ i (h h' : Heap) (o : Obj) (nw : List (Addr × Obj)), (h.IsTupleIter I ax i ∧ h.IsTuple ax its) → h.get? I = some o → h'.get? I = some o → (∀ b o, h₀.get? b = some o → h'.get? b = some o) → News h₀ L h' nw → SrcTup ax its nw → (h'.IsTupleIter I ax i ∧ h'.IsTuple ax its) :=
  fun i h h' o nw st e e' k N S => ⟨by obtain ⟨o', q, r⟩ := st.1; rw [e] at q; cases q; exact ⟨o, e', r⟩, S.tup N⟩
def CompSrcTup (prog : Program) (w : World) (A : Around) (h₀ : Heap) (L : Addr) (m : PySem.Str → Option Value) (env : Env) (elt : PySem.Expr) (x : PySem.Str) (scope : Scope) (cl : List (PySem.Str × Addr)) (Fin : Shared → List Value → List (Addr × Obj) → Prop) (xv : Value) (s₁ : Shared) : Prop :=
  ∃ ax its news, xv = .ref ax ∧ A.handled = none ∧ Fr h₀ L s₁.heap m ∧ News h₀ L s₁.heap news ∧ SrcTup ax its news ∧ its.size ≤ sizeLine ∧
    ∀ s₂ : Shared, (∃ h, s₂ = { s₁ with heap := h }) → CompRest prog w A h₀ L m env elt x scope cl s₂ (SrcTup ax its) (fun i v => its[i]? = some v) (Fin s₂) its.size 0 [] news
theorem CompSrcTup.ledger {elt : PySem.Expr} {x : PySem.Str} {scope : Scope} {cl : List (PySem.Str × Addr)} {Fin : Shared → List Value → List (Addr × Obj) → Prop} {ax : Addr} {vs : List Value} {news : List (Addr × Obj)} {s₁ : Shared}
    (hh : A.handled = none) (F : Fr h₀ L s₁.heap m) (N : News h₀ L s₁.heap news) (hm : (ax, tupOf vs) ∈ news) (hsz : vs.length ≤ sizeLine)
    (h : ∀ g, CompRest prog w A h₀ L m env elt x scope cl { s₁ with heap := g } (SrcTup ax vs.toArray) (fun i v => vs.toArray[i]? = some v) (Fin { s₁ with heap := g }) vs.toArray.size 0 [] news) :
    CompSrcTup prog w A h₀ L m env elt x scope cl Fin (.ref ax) s₁ := ⟨ax, _, news, rfl, hh, F, N, ⟨_, hm, rfl, _, rfl⟩, by simpa using hsz, fun _ ⟨g, e⟩ => e ▸ h g⟩
theorem ListComp_Tup {elt iter : PySem.Expr} {x : PySem.Str} {px : Pos} {scope : Scope} {cl : List (PySem.Str × Addr)} {pos : Pos} {Q : Value → Shared → Prop} (F₀ : Fr h₀ L s.heap m)
    (hclos : closureFor scope env = pure cl) (hcell : ∀ y ∈ scope.names, y.2 ≠ .cell) (hkind : scope.kind = .function)
    (hnames : ∀ y ∈ scope.names, y.2 = .local → scope.names.lookup y.1 = some .local) (hx : scope.names.lookup x = some .local)
    (h : wpAny (model prog w) A (eval iter env) (CompSrcTup prog w A h₀ L m env elt x scope cl (fun s₂ => FinE h₀ L m s₂ Q)) E s)
    (hs : ∀ x, foldedSetIterable iter env x = pure x := by intro _; rfl) :
    wpAny (model prog w) A (eval (.ListComp elt [⟨.Name x px, iter, [], 0⟩] scope pos) env) Q E s := by
  rw [eval_ListComp]
  refine wpAny_comprehension_free (use := none) rfl hs hclos hkind hnames (wpAny_mono h (fun xv s₁ h₁ => ?_) fun _ _ e => e)
  obtain ⟨ax, its, news, rfl, hh, F, N, S, hsz, R⟩ := h₁
  have hl := S.tup N
  have hlt : ax < s₁.heap.objs.size := by obtain ⟨_, e, _⟩ := hl; exact Heap.lt_size e
  refine wpAny_pyIter_tuple hl ?_
  have up : ∀ b o, s₁.heap.get? b = some o → (s₁.heap.push { cls := .type "tuple_iterator", data := .fields #[.ref ax, .int 0 0] }).get? b = some o := fun b o e => Heap.get?_push_of_some _ e
  refine block_U (Walks.tuple hh s₁.heap.objs.size ax (Nat.ne_of_lt hlt) its) hsz (fun i h st => by obtain ⟨o, e, _⟩ := st.1; exact ⟨o, e⟩) tup_st hcell hkind hx ⟨⟨_, Heap.get?_push_size _ rfl, rfl, rfl⟩, ?_⟩ (fun b hb => ?_)
    (F.keeps up) (N.grown up) (Nat.ne_of_lt F.ns.lt) (next_is_new F) (fun p hp => Nat.ne_of_lt (Heap.lt_size (N p hp).1)) S (R _ ⟨_, rfl⟩) ?_
  · obtain ⟨o, e, r⟩ := hl
    exact ⟨o, up _ _ e, r⟩
  · show b < (s₁.heap.push _).objs.size
    rw [Heap.size_push]
    rcases List.mem_cons.mp hb with rfl | hb
    · exact Nat.lt_succ_self _
    · rw [List.mem_singleton.mp hb]; exact Nat.lt_succ_of_lt hlt
  · intro D C h' tk m' ys news' F' N' o1 hn hC₀ hD₀ hCL hDL hCD offC fin
    refine ⟨m', hn, fun h'' hs'' => fin D h'' tk (F'.change hs'' hCL hC₀) (fun p hp => ?_) o1⟩
    refine ⟨hs''.extBut _ _ ?_ (N' p hp).1, (N' p hp).2⟩
    rcases List.mem_cons.mp hp with rfl | hp
    · exact Ne.symm hCD
    · exact offC p hp

theorem CompRest.ind {elt : PySem.Expr} {x : PySem.Str} {scope : Scope} {cl : List (PySem.Str × Addr)} {S : List (Addr × Obj) → Prop} {P : Nat → Value → Prop} {Fin : List Value → List (Addr × Obj) → Prop} {n : Nat} {news : List (Addr × Obj)}
    (Inv : Nat → List Value → List (Addr × Obj) → Prop) (h0 : Inv 0 [] news) (hFin : ∀ ys nw, Inv n ys nw → Fin ys nw)
    (hstep : ∀ i ys nw v I oI C oC D m₂ h tk (E' : Value → Shared → Prop), i < n → Inv i ys nw → P i v → NsObj oC m₂ → m₂ x = some v → Fr h₀ L h m → News h₀ L h ((I, oI) :: (C, oC) :: (D, lst ys) :: nw) → Off3 I C D nw → ((@Ne Nat I C) ∧ (@Ne Nat I D) ∧ (@Ne Nat C D)) →
      wpAny (model prog w) A (eval elt (compEnvC scope cl C env)) (CompEnd h₀ L m { s with heap := h, toks := tk } I oI C oC D (lst ys) S (fun y nw' => Inv (i + 1) (ys ++ [y]) nw')) E' { s with heap := h, toks := tk }) :
    CompRest prog w A h₀ L m env elt x scope cl s S P Fin n 0 [] news := by
  have all : ∀ k i ys nw, i + k = n → Inv i ys nw → CompRest prog w A h₀ L m env elt x scope cl s S P Fin k i ys nw := by
    intro k
    induction k with
    | zero =>
      intro i ys nw hi hI
      have : i = n := by omega
      subst this
      exact hFin ys nw hI
    | succ k ih =>
      intro i ys nw hi hI v I oI C oC D m₂ h tk E' hP hC hx F N off hne
      refine wpAny_mono (hstep i ys nw v I oI C oC D m₂ h tk E' (by omega) hI hP hC hx F N off hne) (fun y s' hy => ?_) fun _ _ e => e
      obtain ⟨h', tk', nw', e, F', N', off', hS', r⟩ := hy
      exact ⟨h', tk', nw', e, F', N', off', hS', ih (i + 1) _ _ (by omega) r⟩
  exact all n 0 [] news (by omega) h0

theorem CompRestT.ind {ct elt : PySem.Expr} {x : PySem.Str} {scope : Scope} {cl : List (PySem.Str × Addr)} {S : List (Addr × Obj) → Prop} {P : Nat → Value → Prop} {Fin : List Value → List (Addr × Obj) → Prop} {n : Nat} {news : List (Addr × Obj)}
    (Inv : Nat → List Value → List (Addr × Obj) → Prop) (h0 : Inv 0 [] news) (hFin : ∀ ys nw, Inv n ys nw → Fin ys nw)
    (hstep : ∀ i ys nw v I oI C oC D m₂ h tk (E' : Value → Shared → Prop), i < n → Inv i ys nw → P i v → NsObj oC m₂ → m₂ x = some v → Fr h₀ L h m → News h₀ L h ((I, oI) :: (C, oC) :: (D, lst ys) :: nw) → Off3 I C D nw → ((@Ne Nat I C) ∧ (@Ne Nat I D) ∧ (@Ne Nat C D)) →
      wpAny (model prog w) A (isTrue ct (compEnvC scope cl C env) (eval ct (compEnvC scope cl C env))) (fun ok s' => if ok = true then
        wpAny (model prog w) A (eval elt (compEnvC scope cl C env)) (CompEnd h₀ L m { s with heap := h, toks := tk } I oI C oC D (lst ys) S (fun y nw' => Inv (i + 1) (ys ++ [y]) nw')) E' s'
        else CompEnd h₀ L m { s with heap := h, toks := tk } I oI C oC D (lst ys) S (fun _ nw' => Inv (i + 1) ys nw') Value.none s') E' { s with heap := h, toks := tk }) :
    PyProof.Rows.LCt.CompRestT prog w A h₀ L m env ct elt x scope cl s S P Fin n 0 [] news := by
  have all : ∀ k i ys nw, i + k = n → Inv i ys nw → PyProof.Rows.LCt.CompRestT prog w A h₀ L m env ct elt x scope cl s S P Fin k i ys nw := by
    intro k
    induction k with
    | zero =>
      intro i ys nw hi hI
      have : i = n := by omega
      subst this
      exact hFin ys nw hI
    | succ k ih =>
      intro i ys nw hi hI v I oI C oC D m₂ h tk E' hP hC hx F N off hne
      have up : ∀ (rest : Value → List (Addr × Obj) → Prop) (rest' : Value → List (Addr × Obj) → Prop) y s', (∀ y nw', rest y nw' → rest' y nw') → CompEnd h₀ L m { s with heap := h, toks := tk } I oI C oC D (lst ys) S rest y s' → CompEnd h₀ L m { s with heap := h, toks := tk } I oI C oC D (lst ys) S rest' y s' := by
        rintro rest rest' y s' hr ⟨h', tk', nw', e, F', N', off', hS', r⟩
        exact ⟨h', tk', nw', e, F', N', off', hS', hr _ _ r⟩
      refine wpAny_mono (hstep i ys nw v I oI C oC D m₂ h tk E' (by omega) hI hP hC hx F N off hne) (fun ok s' hy => ?_) fun _ _ e => e
      cases ok with
      | true =>
        simp only [if_true] at hy ⊢
        exact wpAny_mono hy (fun y s'' q => up _ _ y s'' (fun y nw' r => ih (i + 1) _ _ (by omega) r) q) fun _ _ e => e
      | false =>
        simp only [Bool.false_eq_true, if_false] at hy ⊢
        exact up _ _ _ _ (fun y nw' r => ih (i + 1) _ _ (by omega) r) hy
  exact all n 0 [] news (by omega) h0

theorem cat_lst {D D' : Addr} {vs us : List Value} {n n' : Nat} {news : List (Addr × Obj)} {Q : Value → Shared → Prop} (F : Fr h₀ L s.heap m) (N : News h₀ L s.heap news) (h1 : (D, listOf vs.toArray n) ∈ news) (h2 : (D', listOf us.toArray n') ∈ news) (hz : vs.length + us.length ≤ 1000)
    (h : ∀ l k h', Fr h₀ L h' m → News h₀ L h' ((l, listOf (vs ++ us).toArray k) :: news) → (∀ p ∈ news, p.1 < l) → Q (.ref l) { s with heap := h' }) :
    wpAny (model prog w) A (binaryOp .Add (.ref D) (.ref D')) Q E s :=
  kmk_add_lit F N (isList_of N h1) (isList_of N h2) rfl (fun l h' F' N' hl => h l 0 h' F' N' hl) (by rw [sizeLine_eq]; simp; omega)
end
end Mine
section
local macro_rules | `(tactic| walk_at "eval ListComp") => `(tactic| (k_here; k_dflt (refine Mine.ListComp_Tup (F₀ := by k_asm) (by with_unfolding_all rfl) (by decide) (by rfl) (by decide) (by rfl) ?_)))
local macro_rules | `(tactic| walk_at "binaryOp Add ref ref") => `(tactic| (k_here; (with_reducible show wpAny _ _ (binaryOp _ (Value.ref _) (Value.ref _)) _ _ _); k_dflt (refine' Mine.cat_lst ?F ?N ?q1 ?q2 ?q3 ?_; (case F => k_asm); (case N => k_asm); (case q1 => k_mem); (case q2 => k_mem); (case q3 => omega)); intro l' k' h' F' N' l1; (try k_lt l1); (try k_sweep)))
namespace Mine
/-- the pairs of the turns -/
def laidP (ns : List Int) : Nat → List (Int × Int)
  | 0 => []
  | k + 1 => laidP ns k ++ ns.map fun e => ((k : Int), e)
theorem laidP_len (ns : List Int) : ∀ k, (laidP ns k).length = k * ns.length
  | 0 => by simp [laidP]
  | k + 1 => by rw [laidP, List.length_append, laidP_len ns k, List.length_map, Nat.succ_mul]
def laidMap (ev : Nat) (turns : Int) (tt l : Nat) : PySem.Str → Option Value := fun y => if y = PySem.Str.ofString "laid" then some (Value.ref l) else if y = PySem.Str.ofString "turns" then some (Value.int turns tt) else if y = PySem.Str.ofString "events" then some (Value.ref ev) else none
theorem laid0 (w : World) (ev : Nat) (evs : List Value) (ns : List Int) (hi : IntsAre evs ns) (hlen : evs.length ≤ 4) (turns : Int) (tt : Nat) (ht0 : -1 ≤ turns) (ht1 : turns ≤ 3) (R : List (Addr × Obj)) :
    Tell 800 w 152 [.ref ev, .int turns tt] ((ev, tupOf evs) :: R) (fun r nw => ∃ l n2 ps, r = .ref l ∧ nw = (l, listOf (prs ps).toArray n2) :: (ps.map Pr.o ++ ((ev, tupOf evs) :: R)) ∧
      ps.map Pr.p = laidP ns (if turns = -1 then 40 else turns.toNat) ∧ (l :: ps.map Pr.a : List Nat).Nodup ∧ ∀ b ∈ (l :: ps.map Pr.a : List Nat), ∀ p ∈ (ev, tupOf evs) :: R, @LT.lt Nat _ p.1 b) := by
  unfold Tell
  k_fill
  rintro dp un gd cn sc a ccd cl outer A₀ base h₀ L m mg mb mean ⟨hp, gens, drawn, toks, os0⟩ Q E B F X N T hkind hd hu hret
  w_on
  have hMk : KstMark := kstMark
  refine wpAny_call ?_
  k_dflt (refine' code_defC ?k1 ?k2 ?k3 ?k4 ?k5 ?kA ?kF ?kK ?k6 ?k7 ?k8 ?k9 ?kB ?kD ?_ ?c2 ?c3 ?c4; (case kA => exact rfl); (case kF => exact rfl); (case kK => assumption); (case k1 => k_asm); (case k2 => k_asm); (case k3 => k_asm); (case k4 => k_asm); (case k5 => k_asm); (case k6 => k_is); (case k7 => k_is); (case k8 => ktr_room); (case k9 => first | exact BindsTo.of_eq rfl | exact binds_K (by k_in) rfl (by k_is) rfl rfl rfl | fail "k_enter: no rule for these arguments"); (case kB => exact rfl); (case kD => decide +kernel); (case c2 => exact rfl); (case c3 => exact rfl); (case c4 => exact rfl); k_whole; intro g' L' h' tk' cells' FG' F' N' Y' B' X' T' l1; (try k_lt l1); k_cells Y'; (try simp only [List.cons_append, List.nil_append] at N'); (try dsimp only); (try k_lift B'); (try k_fold))
  iterate 7 walk1
  rename Fr g' _ _ _ => F1
  rename News g' _ _ _ => N1
  rename Addr => l0
  have F2 : Fr g' L' _ (laidMap ev turns tt l0) := F1
  clear F1
  refine For_up (h₀ := g') (if turns = -1 then 40 else turns.toNat) (fun i m nx => ∃ l n2 ps oc, m = laidMap ev turns tt l ∧ nx = (l, listOf (prs ps).toArray n2) :: (L' + 1, oc) :: (ps.map Pr.o ++ ((ev, tupOf evs) :: R)) ∧ (∃ v, oc.data = Data.cell v) ∧ ps.map Pr.p = laidP ns i ∧
      ((L' + 1) :: l :: ps.map Pr.a : List Nat).Nodup ∧ ∀ b ∈ ((L' + 1) :: l :: ps.map Pr.a : List Nat), ∀ p ∈ (ev, tupOf evs) :: R, @LT.lt Nat _ p.1 b) (by rfl) ?_ ?_ ?_ (by intro _; rfl)
  · have hnd1 : ∀ l2 : Nat, @LT.lt Nat _ (L' + 1) l2 → ((L' + 1) :: l2 :: ([] : List Pr).map Pr.a : List Nat).Nodup := fun l2 h => by
      simp only [List.map_nil, List.nodup_cons, List.mem_cons, List.not_mem_nil, or_false, not_false_eq_true, List.nodup_nil, and_true]
      exact Nat.ne_of_lt h
    have hR1 : ∀ q ∈ R, @LT.lt Nat _ q.1 L' := kst_ltOf l1.2
    rename (_ ∧ _ ∧ AllLt _ R) => l2
    k_steps
    · rename IsRange _ _ _ _ _ _ _ _ => hIR
      rename Fr g' _ _ _ => F3
      rename News g' _ _ _ => N3
      have h1 : turns = -1 := by assumption
      rw [if_pos h1]
      refine ForSrc.intro hIR (by decide) (by rfl) F3 N3 (nx := (l0, listOf (prs []).toArray 0) :: ((L' + 1), _) :: ((ev, tupOf evs) :: R)) (fun q hq => hq) ⟨l0, 0, [], _, rfl, rfl, ⟨_, by assumption⟩, rfl, hnd1 l0 l2.1, ?_⟩
      intro b hb q hq
      simp only [List.map_nil, List.mem_cons, List.not_mem_nil, or_false] at hb
      rcases hb with rfl | rfl
      · rcases List.mem_cons.mp hq with rfl | hq
        · exact Nat.lt_succ_of_lt l1.1
        · exact Nat.lt_succ_of_lt (hR1 q hq)
      · rcases List.mem_cons.mp hq with rfl | hq
        · exact l2.2.1
        · exact kst_ltOf l2.2.2 q hq
    · rename IsRange _ _ _ _ _ _ _ _ => hIR
      rename Fr g' _ _ _ => F3
      rename News g' _ _ _ => N3
      have h1 : turns ≠ -1 := by assumption
      rw [if_neg h1]
      have hcast : ((turns.toNat : Nat) : Int) = turns := Int.toNat_of_nonneg (by omega)
      refine ForSrc.intro hIR (small_one (by omega) (by omega) (by omega) (by omega)) (by rw [hcast]; simp [Builtin.Range.rangeSize]; omega) F3 N3 (nx := (l0, listOf (prs []).toArray 0) :: ((L' + 1), _) :: ((ev, tupOf evs) :: R)) (fun q hq => hq) ⟨l0, 0, [], _, rfl, rfl, ⟨_, by assumption⟩, rfl, hnd1 l0 l2.1, ?_⟩
      intro b hb q hq
      simp only [List.map_nil, List.mem_cons, List.not_mem_nil, or_false] at hb
      rcases hb with rfl | rfl
      · rcases List.mem_cons.mp hq with rfl | hq
        · exact Nat.lt_succ_of_lt l1.1
        · exact Nat.lt_succ_of_lt (hR1 q hq)
      · rcases List.mem_cons.mp hq with rfl | hq
        · exact l2.2.1
        · exact kst_ltOf l2.2.2 q hq
  · rintro i t m₁ nx ⟨hp1, gens1, drawn1, toks1, os1⟩ own hi' ⟨l, n2, ps, oc, rfl, rfl, ⟨v, hv⟩, hps, hnd, hfr⟩ hoff F3 N3
    clear F2 N1
    have hnn := hnd
    simp only [List.nodup_cons, List.mem_cons, not_or] at hnn
    obtain ⟨⟨hne1, hne2⟩, hne3, hndp⟩ := hnn
    have hne : @Ne Nat (L' + 1) l := hne1
    have hev1 : @LT.lt Nat _ ev (L' + 1) := hfr _ (.head _) _ (.head _)
    have hev2 : @LT.lt Nat _ ev l := hfr _ (.tail _ (.head _)) _ (.head _)
    obtain ⟨T, hT⟩ : ∃ T, T = ps.map Pr.o ++ (R ++ own) := ⟨_, rfl⟩
    have hTo : OwnOff T [L' + 1, l] := by
      rw [hT]
      intro p hp b hb
      have hb' : b = L' + 1 ∨ b = l := by simpa using hb
      rcases List.mem_append.mp hp with hq | hq
      · obtain ⟨q, hq1, rfl⟩ := List.mem_map.mp hq
        have hqa : q.a ∈ ps.map Pr.a := List.mem_map.mpr ⟨q, hq1, rfl⟩
        rintro rfl
        rcases hb' with h | h
        · exact hne2 (h ▸ hqa)
        · exact hne3 (h ▸ hqa)
      · rcases List.mem_append.mp hq with hq | hq
        · have h2 := hfr b (by rcases hb' with rfl | rfl <;> simp) p (.tail _ hq)
          exact Nat.ne_of_lt h2
        · refine hoff p hq b ?_
          rcases hb' with rfl | rfl <;> simp
    have N4 : News g' L' hp1 ((l, listOf (prs ps).toArray n2) :: ((L' + 1), oc) :: (ev, tupOf evs) :: T) := by
      intro p hp
      refine N3 p ?_
      rw [hT] at hp
      simp only [List.mem_cons, List.mem_append] at hp ⊢
      rcases hp with h | h | h | h | h | h <;> simp [h]
    have F4 : Fr g' L' hp1 (laidMap ev turns tt l) := F3
    clear F3 N3
    k_steps
    rename Obj => oc'
    rename (Obj.data _ = Data.cell (some (Value.int _ _))) => hd'
    rename Fr g' _ _ _ => F5
    rename News g' _ _ _ => N5
    obtain ⟨B, hB⟩ : ∃ B, B = (l, listOf (prs ps).toArray n2) :: ((L' + 1), oc') :: (ev, tupOf evs) :: T := ⟨_, rfl⟩
    have hBl : (l, listOf (prs ps).toArray n2) ∈ B := by rw [hB]; simp
    have hBc : (L' + 1, oc') ∈ B := by rw [hB]; simp
    have hBe : (ev, tupOf evs) ∈ B := by rw [hB]; simp
    have hBT : ∀ q ∈ T, q ∈ B := fun q hq => by rw [hB]; simp [hq]
    rw [← hB] at N5
    refine CompSrcTup.ledger (by rfl) F5 N5 hBe (by rw [sizeLine_eq]; omega) ?_
    intro gh
    refine CompRest.ind (fun j ys nw => ∃ np : List Pr, ys = prs np ∧ np.map Pr.p = (ns.take j).map (fun e => ((i : Int), e)) ∧ nw = np.map Pr.o ++ B ∧ (np.map Pr.a).Nodup ∧ ∀ b ∈ np.map Pr.a, ∀ p ∈ B, @LT.lt Nat _ p.1 b) ⟨[], rfl, rfl, rfl, .nil, fun _ h => nomatch h⟩ ?_ ?_
    · rintro ys nw ⟨np, rfl, hnp, rfl, hnn, hnf⟩
      rw [LCg.FinE]
      intro D hh tkk F6 N6 o1
      have hN7 : News g' L' hh ((D, listOf (prs np).toArray (prs np).length) :: (l, listOf (prs ps).toArray n2) :: ((L' + 1), oc') :: (ev, tupOf evs) :: (np.map Pr.o ++ T)) := by
        intro q hq
        refine N6 q ?_
        rw [hB]
        simp only [List.mem_cons, List.mem_append] at hq ⊢
        rcases hq with h | h | h | h | h | h <;> simp [h]
      clear N6
      have hi40 : i ≤ 40 := by
        split at hi' <;> omega
      have hns4 : ns.length ≤ 4 := by rw [← hi.length]; exact hlen
      have hps0 : ps.length = i * ns.length := by rw [← laidP_len, ← hps, List.length_map]
      have hps2 : ps.length ≤ 40 * 4 := by rw [hps0]; exact Nat.mul_le_mul hi40 hns4
      have hps1 : (prs ps).length ≤ 200 := by rw [prs, List.length_map]; omega
      have htk : ns.take evs.toArray.size = ns := List.take_of_length_le (by simp [hi.length])
      rw [htk] at hnp
      have hnp0 : np.length = ns.length := by have := congrArg List.length hnp; simpa using this
      have hnp1 : (prs np).length ≤ 4 := by rw [prs, List.length_map]; omega
      refine cat_lst F6 hN7 (.tail _ (.head _)) (.head _) (by omega) (fun l' k' h9 F9 N9 l1 => ?_)
      walk1
      walk1
      rename Fr g' _ _ _ => F10
      rename News g' _ _ _ => N10
      have hmap : (fun y => if y = PySem.Str.ofString "laid" then some (Value.ref l') else laidMap ev turns tt l y) = laidMap ev turns tt l' := by
        funext y
        unfold laidMap
        by_cases hy : y = PySem.Str.ofString "laid" <;> simp [hy]
      rw [hmap] at F10
      have happ : prs ps ++ prs np = prs (ps ++ np) := by simp [prs]
      rw [happ] at N10
      have hBv : ∀ b ∈ np.map Pr.a, ∀ q ∈ T, @LT.lt Nat _ q.1 b := fun b hb q hq => hnf b hb q (hBT q hq)
      have hRT : ∀ q ∈ R, q ∈ T := fun q hq => by rw [hT]; simp [hq]
      have hOT : ∀ q ∈ own, q ∈ T := fun q hq => by rw [hT]; simp [hq]
      have hPT : ∀ q ∈ ps, Pr.o q ∈ T := fun q hq => by rw [hT]; exact List.mem_append.mpr (.inl (List.mem_map.mpr ⟨q, hq, rfl⟩))
      have l1T : ∀ q ∈ T, @LT.lt Nat _ q.1 l' := fun q hq => l1 q (by simp [hq])
      have l1n : ∀ b ∈ np.map Pr.a, @LT.lt Nat _ b l' := fun b hb => by
        obtain ⟨q, hq, rfl⟩ := List.mem_map.mp hb
        exact l1 (Pr.o q) (by simp only [List.mem_cons, List.mem_append]; exact .inr (.inr (.inr (.inr (.inl (List.mem_map.mpr ⟨q, hq, rfl⟩))))))
      have l1p : ∀ b ∈ ps.map Pr.a, @LT.lt Nat _ b l' := fun b hb => by
        obtain ⟨q, hq, rfl⟩ := List.mem_map.mp hb
        exact l1T _ (hPT q hq)
      have l1c : @LT.lt Nat _ (L' + 1) l' := l1 (L' + 1, oc') (by simp)
      have l1e : @LT.lt Nat _ ev l' := l1 (ev, tupOf evs) (by simp)
      have hcn : ∀ b ∈ np.map Pr.a, @LT.lt Nat _ (L' + 1) b := fun b hb => hnf b hb _ hBc
      have hen : ∀ b ∈ np.map Pr.a, @LT.lt Nat _ ev b := fun b hb => hnf b hb _ hBe
      have hpn : ∀ b ∈ np.map Pr.a, ∀ c ∈ ps.map Pr.a, @LT.lt Nat _ c b := fun b hb c hc => by
        obtain ⟨q, hq, rfl⟩ := List.mem_map.mp hc
        exact hBv b hb _ (hPT q hq)
      have hown1 : ∀ q ∈ own, ∀ b, (b = L' + 1 ∨ b ∈ ps.map Pr.a ∨ b = ev ∨ ∃ r ∈ R, r.1 = b) → q.1 ≠ b := by
        intro q hq b hb
        refine hoff q hq b ?_
        simp only [List.map_cons, List.map_append, List.mem_cons, List.mem_append, List.map_map]
        rcases hb with h | h | h | ⟨r, hr, h⟩
        · exact .inr (.inl h)
        · exact .inr (.inr (.inl h))
        · exact .inr (.inr (.inr (.inl h)))
        · exact .inr (.inr (.inr (.inr (List.mem_map.mpr ⟨r, hr, h⟩))))
      refine ⟨rfl, InvEndG.intro (nx := (l', listOf (prs (ps ++ np)).toArray k') :: ((L' + 1), oc') :: ((ps ++ np).map Pr.o ++ ((ev, tupOf evs) :: R))) F10 N10 ⟨l', k', ps ++ np, oc', rfl, rfl, ⟨_, hd'⟩, ?_, ?_, ?_⟩ ?_ ?_ ?_⟩
      · rw [List.map_append, hps, hnp]; rfl
      · rw [List.map_append]
        simp only [List.nodup_cons, List.mem_cons, List.mem_append, not_or]
        refine ⟨⟨Nat.ne_of_lt l1c, hne2, fun h => Nat.lt_irrefl _ (hcn _ h)⟩, ⟨fun h => Nat.lt_irrefl _ (l1p _ h), fun h => Nat.lt_irrefl _ (l1n _ h)⟩, ?_⟩
        exact List.nodup_append.mpr ⟨hndp, hnn, fun x hx y hy e => Nat.lt_irrefl _ (e ▸ hpn y hy x hx)⟩
      · intro b hb q hq
        rw [List.map_append] at hb
        simp only [List.mem_cons, List.mem_append] at hb
        rcases hb with h | h | h | h
        · exact hfr b (by simp [h]) q hq
        · subst h
          rcases List.mem_cons.mp hq with rfl | hq
          · exact l1e
          · exact l1T q (hRT q hq)
        · exact hfr b (by simp only [List.mem_cons]; exact .inr (.inr h)) q hq
        · rcases List.mem_cons.mp hq with rfl | hq
          · exact hen b h
          · exact hBv b h q (hRT q hq)
      · intro q hq b hb
        simp only [List.map_cons, List.map_append, List.map_map, List.mem_cons, List.mem_append] at hb
        rcases hb with h | h | (h | h) | h | h
        · rw [h]; exact Nat.ne_of_lt (l1T q (hOT q hq))
        · exact hown1 q hq b (.inl h)
        · exact hown1 q hq b (.inr (.inl h))
        · exact Nat.ne_of_lt (hBv b h q (hOT q hq))
        · exact hown1 q hq b (.inr (.inr (.inl h)))
        · obtain ⟨r, hr, h⟩ := List.mem_map.mp h
          exact hown1 q hq b (.inr (.inr (.inr ⟨r, hr, h⟩)))
      · intro q hq
        simp only [List.map_append, List.mem_cons, List.mem_append] at hq ⊢
        rcases hq with h | h | (h | h) | h | h
        · simp [h]
        · simp [h]
        · obtain ⟨r, hr, rfl⟩ := List.mem_map.mp h
          simp [hPT r hr]
        · simp [h]
        · simp [h]
        · simp [hRT q h]
      · intro q hq
        simp [hOT q hq]
    · rintro j ys nw v I oI C oC D m₂ hh tkk E' hj ⟨np, rfl, hnp, rfl, hnn, hnf⟩ hP hC hx F6 N6 off hne6
      have hjn : j < ns.length := by simpa [hi.length] using hj
      obtain ⟨tv, htv⟩ := hi.get j ns[j] (by simp [hjn])
      have hv' : v = .int ns[j] tv := by
        have hP' : evs[j]? = some v := by simpa using hP
        rw [htv] at hP'; exact (Option.some.inj hP').symm
      subst hv'
      have hmem : (L' + 1, oc') ∈ np.map Pr.o ++ B := List.mem_append.mpr (.inr hBc)
      walk1
      walk1
      refine lcf_cell N6 (by rfl) (List.mem_cons_of_mem _ (List.mem_cons_of_mem _ (List.mem_cons_of_mem _ hmem))) hd' ?_ (by rfl) (by rfl)
      walk1
      refine LCgL.ld_own N6 (List.mem_cons_of_mem _ (.head _)) hC hx ?_
      walk1
      have hlt8 : ∀ p ∈ (I, oI) :: (C, oC) :: (D, LCg.lst (prs np)) :: (np.map Pr.o ++ B), @LT.lt Nat _ p.1 hh.objs.size := fun p hp => Heap.lt_size (N6 p hp).1
      refine newTuple_N F6 N6 (fun h8 F8 N8 => ?_) (by rw [sizeLine_eq]; simp)
      refine LCg.CompEnd.intro F8 N8 ((np ++ [Pr.mk hh.objs.size (0 + (i : Int)) t ns[j] tv]).map Pr.o ++ B) ?_ ?_ ?_ ⟨np ++ [Pr.mk hh.objs.size (0 + (i : Int)) t ns[j] tv], ?_, ?_, rfl, ?_, ?_⟩
      · intro q hq
        simp only [List.map_append, List.map_cons, List.map_nil, List.mem_cons, List.mem_append, List.not_mem_nil, or_false] at hq ⊢
        rcases hq with h | h | h | (h | h) | h
        · simp [h]
        · simp [h]
        · simp [h]
        · simp [h]
        · exact .inl h
        · simp [h]
      · refine LCg.Off3.of fun q hq => ?_
        have hof := off.mem
        simp only [List.map_append, List.map_cons, List.map_nil, List.mem_cons, List.mem_append, List.not_mem_nil, or_false] at hq
        rcases hq with (h | h) | h
        · exact hof q (List.mem_append.mpr (.inl h))
        · rw [h]
          exact ⟨Nat.ne_of_gt (hlt8 _ (.head _)), Nat.ne_of_gt (hlt8 _ (.tail _ (.head _))), Nat.ne_of_gt (hlt8 _ (.tail _ (.tail _ (.head _))))⟩
        · exact hof q (List.mem_append.mpr (.inr h))
      · show SrcTup _ _ _
        exact ⟨_, List.mem_append.mpr (Or.inr hBe), rfl, _, rfl⟩
      · simp [prs]
      · have e1 : ns.take (j + 1) = ns.take j ++ [ns[j]] := by rw [List.take_add_one]; simp [hjn]
        rw [e1, List.map_append, List.map_append, hnp]
        simp [Pr.p]
      · rw [List.map_append]
        refine List.nodup_append.mpr ⟨hnn, by simp, ?_⟩
        intro x hx y hy
        simp only [List.map_cons, List.map_nil, List.mem_cons, List.not_mem_nil, or_false] at hy
        subst hy
        obtain ⟨q, hq, rfl⟩ := List.mem_map.mp hx
        exact Nat.ne_of_lt (hlt8 (Pr.o q) (.tail _ (.tail _ (.tail _ (List.mem_append.mpr (.inl (List.mem_map.mpr ⟨q, hq, rfl⟩)))))))
      · intro b hb p hp
        rw [List.map_append] at hb
        rcases List.mem_append.mp hb with h | h
        · exact hnf b h p hp
        · simp only [List.map_cons, List.map_nil, List.mem_cons, List.not_mem_nil, or_false] at h
          subst h
          exact hlt8 p (.tail _ (.tail _ (.tail _ (List.mem_append.mpr (.inr hp)))))
  · rintro m₁ nx h9 tk9 ⟨l, n2, ps, oc, rfl, rfl, _, hps, hnd, hfr⟩ F3 N3
    clear F2 N1
    have F4 : Fr g' L' h9 (laidMap ev turns tt l) := F3
    have N4 : News g' L' h9 ((l, listOf (prs ps).toArray n2) :: ((L' + 1), oc) :: (ps.map Pr.o ++ ((ev, tupOf evs) :: R))) := N3
    clear F3 N3
    k_steps
    rename Fr h₀ _ _ _ => F5
    rename News h₀ _ _ _ => N5
    refine hret _ _ _ _ ⟨l, n2, ps, rfl, rfl, hps, (List.nodup_cons.mp hnd).2, fun b hb => hfr b (.tail _ hb)⟩ F5 (fun q hq => N5 q ?_)
    simp only [List.mem_cons, List.mem_append] at hq ⊢
    rcases hq with h | h | h | h <;> simp [h]
end Mine
end
namespace Mine
theorem draw0 (w : World) (dk cL : Nat) (cs : List Value) (ns : List Int) (n0 n1 : Nat) (k many : Int) (tk tm : Nat) (rest : List (Addr × Obj))
    (hi : IntsAre cs ns) (hlen : ns.length ≤ 63) (hk0 : 0 ≤ k) (hk : k ≤ 200) (hm : 0 < many) (hm2 : many < 100) (hoff : ∀ p ∈ rest, @Ne Nat p.1 dk) (hne : @Ne Nat dk cL) :
    Tell 800 w 140 [.ref dk, .int many tm] ((dk, listOf #[.ref cL, .int k tk] n0) :: ([(cL, listOf cs.toArray n1)] ++ rest))
      (fun r news' => ∃ t : Nat × Nat, (∃ v u, r = .int v u ∧ 0 ≤ v ∧ v < many) ∧ news' = ((dk, listOf #[.ref cL, .int (k + 1) t.1] t.2) :: ([(cL, listOf cs.toArray n1)] ++ rest))) := by
  unfold Tell
  k_fill
  rintro dp un gd cn sc a ccd cl outer A₀ base h₀ L m mg mb mean ⟨hp, gens, drawn, toks, os⟩ Q E B F X N T hkind hd hu hret
  simp only [List.cons_append, List.nil_append] at N hret
  have hoff' : OwnOff rest [dk] := fun p hp b hb => by rw [List.mem_singleton.mp hb]; exact hoff p hp
  w_on
  have hMk : KstMark := kstMark
  refine wpAny_call ?_
  k_dflt cell_enter
  k_steps
  all_goals (refine hret _ _ _ _ ?_ (by k_asm) (by k_asm))
  all_goals (exact ⟨(_, _), ⟨_, _, rfl, Int.fmod_nonneg_of_pos _ hm, Int.fmod_lt_of_pos _ hm⟩, rfl⟩)
theorem draw {w : World} {dk cL : Nat} {cs : List Value} {ns : List Int} {n0 n1 : Nat} {k many : Int} {tk tm : Nat} {news : List (Addr × Obj)} {news' : Nat × Nat → List (Addr × Obj)}
    (hc : (cL, listOf cs.toArray n1) ∈ news) (hi : IntsAre cs ns) (hlen : ns.length ≤ 63) (hk0 : 0 ≤ k) (hk : k ≤ 200) (hm : 0 < many) (hm2 : many < 100) (hne : @Ne Nat dk cL)
    (U : ∀ t : Nat × Nat, Upd dk (listOf #[.ref cL, .int k tk] n0) (listOf #[.ref cL, .int (k + 1) t.1] t.2) news (news' t)) :
    Tell 800 w 140 [.ref dk, .int many tm] news (fun r nw => ∃ t, (∃ v u, r = .int v u ∧ 0 ≤ v ∧ v < many) ∧ nw = news' t) :=
  Tell.upd (P := fun r _ => ∃ v u, r = .int v u ∧ 0 ≤ v ∧ v < many) (fp := [(cL, listOf cs.toArray n1)]) (fun R hR => draw0 w dk cL cs ns n0 n1 k many tk tm R hi hlen hk0 hk hm hm2 hR hne) U (by
    intro p hp
    rw [List.mem_singleton.mp hp]; exact hc) (0, 0)
end Mine
local macro_rules | `(tactic| walk_at "call ref") => `(tactic| (k_here; (with_reducible show wpAny _ _ (PySem.call (Value.ref 140) _ _) _ _ _); k_dflt (refine' Mine.Tell.use (Mine.draw ?q1 ?q2 ?q3 ?q4 ?q5 ?q6 ?q7 ?q8 ?q9) ?k1 ?k2 ?k3 ?k4 ?k5 ?k6 ?k7 ?k8 ?_; walk_at "mine k"; (case q9 => (intro tU; k_upd)); (case q1 => k_mem); (case q2 => with_reducible assumption); (case q3 => first | omega | assumption | (simp only [List.length_map] at *; omega)); (case q4 => omega); (case q5 => omega); (case q6 => omega); (case q7 => omega); (case q8 => omega)); rintro _ h' tk' _ ⟨tU, ⟨v', u', e1, hv0', hv1'⟩, e2⟩ F' N'; subst e1; subst e2; (try dsimp only); (try k_sweep)))
namespace Mine
def lawMap (dk px : Nat) (u : PySem.Str → Option Value) : PySem.Str → Option Value := fun y => if y = PySem.Str.ofString "player" then some (Value.ref px) else if y = PySem.Str.ofString "deck" then some (Value.ref dk) else u y
theorem lawMap_eq {dk px : Nat} {m : PySem.Str → Option Value} (h1 : m (PySem.Str.ofString "player") = some (Value.ref px)) (h2 : m (PySem.Str.ofString "deck") = some (Value.ref dk)) : m = lawMap dk px m := by
  funext y
  unfold lawMap
  by_cases h : y = PySem.Str.ofString "player"
  · rw [if_pos h, h, h1]
  · rw [if_neg h]
    by_cases h' : y = PySem.Str.ofString "deck"
    · rw [if_pos h', h', h2]
    · rw [if_neg h']
/-- all addresses of the law's world -/
def wad (cO cB dk cL px pd pl ol : Nat) (es : List Ent) (os : List Ow) : List Nat := [cO, cB, dk, cL, px, pd, pl, ol] ++ (adrs es ++ oadr os)
structure Wld (cO cB dk cL px pd pl ol : Nat) (es : List Ent) (os : List Ow) (Z : List (Addr × Obj)) : Prop where
  nd : (wad cO cB dk cL px pd pl ol es os).Nodup
  off : OwnOff Z (wad cO cB dk cL px pd pl ol es os)
  ge : ∀ e ∈ es, e.Good
  go : ∀ o ∈ os, o.Good
  le : es.length ≤ 10
  lo : os.length ≤ 10
def laps (ns : List Int) : Nat → Nat → List (Int × Int)
  | _, 0 => []
  | a, n + 1 => ns.map (fun e => ((a : Int), e)) ++ laps ns (a + 1) n
/-- what is still to come of a macro -/
def PE.rest (p : PE) : List (Int × Int) :=
  if p.turns = 0 ∨ p.ns = [] then [] else (p.ns.drop p.place.toNat).map (fun e => (p.over, e)) ++ laps p.ns (p.over.toNat + 1) (if p.turns = -1 then 39 - p.over.toNat else p.turns.toNat - 1)
def One (i : Nat) (p : PE) (q : List (Int × Int) × Int) : Prop :=
  q.1 = p.rest ∧ q.2 = p.over ∧ 0 ≤ p.over ∧ p.over ≤ i ∧ -1 ≤ p.turns ∧ 0 ≤ p.place ∧ p.place ≤ p.ns.length
inductive Rel (i : Nat) : List PE → List (List (Int × Int) × Int) → Prop
  | nil : Rel i [] []
  | cons {p q ps qs} : One i p q → Rel i ps qs → Rel i (p :: ps) (q :: qs)
def LawJ (w : World) (cO cB dk cL px pd tS : Nat) (cs : List Value) (i : Nat) (m : PySem.Str → Option Value) (nx : List (Addr × Obj)) : Prop :=
  ∃ (u : PySem.Str → Option Value) (oc bc : Obj) (k : Int) (tk n0 n n' ol pl : Nat) (es : List Ent) (os : List Ow), m = lawMap dk px u ∧
    nx = (cO, oc) :: (cB, bc) :: (dk, listOf #[.ref cL, .int k tk] n0) :: (cL, LCg.lst cs) :: (plLed w px pd tS pl n es ++ ownLed ol n' os) ∧ oc.data = .cell (some (.ref ol)) ∧ (∃ v, bc.data = .cell v) ∧
    0 ≤ k ∧ k ≤ 1 + 3 * i ∧ Wld cO cB dk cL px pd pl ol es os [] ∧ Rel i (pes es) (oes os)
theorem mem_pl {w : World} {x d t l n : Nat} {es : List Ent} {p : Addr × Obj} (h : p ∈ plLed w x d t l n es) : p.1 ∈ (x :: d :: l :: adrs es : List Nat) := by
  simp only [plLed, List.mem_cons] at h ⊢
  rcases h with rfl | rfl | rfl | h
  · exact .inl rfl
  · exact .inr (.inl rfl)
  · exact .inr (.inr (.inl rfl))
  · exact .inr (.inr (.inr (mem_adrs h)))
theorem mem_own {ol n : Nat} {os : List Ow} {p : Addr × Obj} (h : p ∈ ownLed ol n os) : p.1 ∈ (ol :: oadr os : List Nat) := by
  simp only [ownLed, List.mem_cons] at h ⊢
  rcases h with rfl | h
  · exact .inl rfl
  · exact .inr (mem_oadr h)
section
variable {w : World} {cO cB dk cL px pd pl ol tS n n' : Nat} {es : List Ent} {os : List Ow} {Z : List (Addr × Obj)} {oc : Obj}
theorem Wld.split (W : Wld cO cB dk cL px pd pl ol es os Z) : ([cO, cB, dk, cL] : List Nat).Nodup ∧ (px :: pd :: pl :: adrs es : List Nat).Nodup ∧ (ol :: oadr os : List Nat).Nodup ∧
    (∀ a ∈ ([cO, cB, dk, cL] : List Nat), ∀ b ∈ (px :: pd :: pl :: adrs es : List Nat), a ≠ b) ∧ (∀ a ∈ ([cO, cB, dk, cL] : List Nat), ∀ b ∈ (ol :: oadr os : List Nat), a ≠ b) ∧ (∀ a ∈ (px :: pd :: pl :: adrs es : List Nat), ∀ b ∈ (ol :: oadr os : List Nat), a ≠ b) := by
  have hp : (wad cO cB dk cL px pd pl ol es os).Perm (([cO, cB, dk, cL] : List Nat) ++ ((px :: pd :: pl :: adrs es) ++ (ol :: oadr os))) := by
    have h1 := (List.perm_middle (a := ol) (l₁ := adrs es) (l₂ := oadr os)).symm
    have h2 := h1.append_left ([cO, cB, dk, cL, px, pd, pl] : List Nat)
    simpa [wad] using h2
  have hn := hp.nodup_iff.mp W.nd
  obtain ⟨a1, a2, a3⟩ := List.nodup_append.mp hn
  obtain ⟨b1, b2, b3⟩ := List.nodup_append.mp a2
  exact ⟨a1, b1, b2, fun a ha b hb => a3 a ha b (List.mem_append.mpr (.inl hb)), fun a ha b hb => a3 a ha b (List.mem_append.mpr (.inr hb)), b3⟩
theorem Wld.zoff (W : Wld cO cB dk cL px pd pl ol es os Z) : OwnOff Z [cO, cB, dk, cL] ∧ OwnOff Z (px :: pd :: pl :: adrs es) ∧ OwnOff Z (ol :: oadr os) := by
  refine ⟨fun p hp b hb => W.off p hp b ?_, fun p hp b hb => W.off p hp b ?_, fun p hp b hb => W.off p hp b ?_⟩ <;>
  · simp only [wad, List.mem_cons, List.mem_append, List.not_mem_nil, or_false] at hb ⊢
    grind
theorem Wld.make (h1 : ([cO, cB, dk, cL] : List Nat).Nodup) (h2 : (px :: pd :: pl :: adrs es : List Nat).Nodup) (h3 : (ol :: oadr os : List Nat).Nodup)
    (h4 : ∀ a ∈ ([cO, cB, dk, cL] : List Nat), ∀ b ∈ (px :: pd :: pl :: adrs es : List Nat), a ≠ b) (h5 : ∀ a ∈ ([cO, cB, dk, cL] : List Nat), ∀ b ∈ (ol :: oadr os : List Nat), a ≠ b) (h6 : ∀ a ∈ (px :: pd :: pl :: adrs es : List Nat), ∀ b ∈ (ol :: oadr os : List Nat), a ≠ b)
    (z1 : OwnOff Z [cO, cB, dk, cL]) (z2 : OwnOff Z (px :: pd :: pl :: adrs es)) (z3 : OwnOff Z (ol :: oadr os)) (ge : ∀ e ∈ es, e.Good) (go : ∀ o ∈ os, o.Good) (le : es.length ≤ 10) (lo : os.length ≤ 10) : Wld cO cB dk cL px pd pl ol es os Z := by
  have hp : (wad cO cB dk cL px pd pl ol es os).Perm (([cO, cB, dk, cL] : List Nat) ++ ((px :: pd :: pl :: adrs es) ++ (ol :: oadr os))) := by
    have h1 := (List.perm_middle (a := ol) (l₁ := adrs es) (l₂ := oadr os)).symm
    have h2 := h1.append_left ([cO, cB, dk, cL, px, pd, pl] : List Nat)
    simpa [wad] using h2
  refine ⟨hp.nodup_iff.mpr (List.nodup_append.mpr ⟨h1, List.nodup_append.mpr ⟨h2, h3, h6⟩, ?_⟩), ?_, ge, go, le, lo⟩
  · intro a ha b hb
    rcases List.mem_append.mp hb with h | h
    · exact h4 a ha b h
    · exact h5 a ha b h
  · intro p hp' b hb
    rcases List.mem_append.mp (hp.mem_iff.mp hb) with h | h
    · exact z1 p hp' b h
    · rcases List.mem_append.mp h with h | h
      · exact z2 p hp' b h
      · exact z3 p hp' b h
/-- what the four first are apart from -/
theorem Wld.off4 (W : Wld cO cB dk cL px pd pl ol es os Z) : OwnOff (plLed w px pd tS pl n es ++ (ownLed ol n' os ++ Z)) [cO, cB, dk, cL] := by
  obtain ⟨_, _, _, h4, h5, _⟩ := W.split
  intro p hp b hb
  rcases List.mem_append.mp hp with h | h
  · exact Ne.symm (h4 b hb p.1 (mem_pl h))
  · rcases List.mem_append.mp h with h | h
    · exact Ne.symm (h5 b hb p.1 (mem_own h))
    · exact W.zoff.1 p h b hb
theorem Wld.four (W : Wld cO cB dk cL px pd pl ol es os Z) : @Ne Nat cO cB ∧ @Ne Nat cO dk ∧ @Ne Nat cO cL ∧ @Ne Nat cB dk ∧ @Ne Nat cB cL ∧ @Ne Nat dk cL := by
  have h := W.split.1
  simp only [List.nodup_cons, List.mem_cons, List.not_mem_nil, or_false, not_or, not_false_eq_true, List.nodup_nil, and_true] at h
  exact ⟨h.1.1, h.1.2.1, h.1.2.2, h.2.1.1, h.2.1.2, h.2.2⟩
end
end Mine
namespace Mine
theorem laps_snoc (ns : List Int) : ∀ n a, laps ns a (n + 1) = laps ns a n ++ ns.map fun e => (((a + n : Nat) : Int), e)
  | 0, a => by simp [laps]
  | n + 1, a => by
    rw [laps, laps_snoc ns n (a + 1), laps, List.append_assoc]
    simp only [show a + 1 + n = a + (n + 1) by omega]
theorem laidP_laps (ns : List Int) : ∀ k, laidP ns k = laps ns 0 k
  | 0 => rfl
  | k + 1 => by rw [laidP, laps_snoc, laidP_laps ns k]; simp
theorem rest_done {p : PE} (h : p.done = true) : p.rest = [] := by
  simp only [PE.done, Bool.or_eq_true, decide_eq_true_eq] at h
  unfold PE.rest
  rw [if_pos (h.imp id fun h => List.length_eq_zero_iff.mp h)]
theorem not_done {p : PE} (h : p.done = false) : p.turns ≠ 0 ∧ p.ns ≠ [] := by
  simp only [PE.done, Bool.or_eq_false_iff, decide_eq_false_iff_not] at h
  exact ⟨h.1, fun e => h.2 (by rw [e]; rfl)⟩
theorem rest_live {p : PE} (h : p.done = false) : p.rest = (p.ns.drop p.place.toNat).map (fun e => (p.over, e)) ++ laps p.ns (p.over.toNat + 1) (if p.turns = -1 then 39 - p.over.toNat else p.turns.toNat - 1) := by
  have := not_done h
  unfold PE.rest
  rw [if_neg (fun h => h.elim this.1 this.2)]
theorem rest_between {p : PE} (hd : p.done = false) (hb : p.between = true) (ho : 0 ≤ p.over) (ho2 : p.over ≤ 30) (ht : -1 ≤ p.turns) :
    (p.turn.done = true → p.rest = []) ∧ (p.turn.done = false → p.rest = p.turn.rest) := by
  have hb' : p.place = (p.ns.length : Int) := of_decide_eq_true hb
  have hr := rest_live hd
  have hdrop : p.ns.drop p.place.toNat = [] := by rw [hb']; simp
  rw [hdrop] at hr
  have hnd := not_done hd
  rw [hr]
  by_cases h1 : p.turns = -1
  · have e : p.turn = ⟨p.ns, -1, 0, p.over + 1⟩ := by simp [PE.turn, h1]
    rw [e, if_pos h1]
    constructor
    · intro h
      simp only [PE.done, Bool.or_eq_true, decide_eq_true_eq] at h
      rcases h with h | h
      · omega
      · exact absurd (List.length_eq_zero_iff.mp h) hnd.2
    · intro h
      rw [rest_live h]
      simp only [if_true]
      obtain ⟨k, hk⟩ : ∃ k, 39 - p.over.toNat = k + 1 := ⟨39 - p.over.toNat - 1, by omega⟩
      have hk' : 39 - (p.over + 1).toNat = k := by omega
      have e1 : (p.over + 1).toNat = p.over.toNat + 1 := by omega
      have e2 : ((p.over.toNat + 1 : Nat) : Int) = p.over + 1 := by omega
      rw [hk, hk', laps, e1, e2]
      simp
  · have e : p.turn = ⟨p.ns, p.turns - 1, 0, p.over + 1⟩ := by simp [PE.turn, h1]
    rw [e, if_neg h1]
    constructor
    · intro h
      simp only [PE.done, Bool.or_eq_true, decide_eq_true_eq] at h
      rcases h with h | h
      · have h2 : p.turns = 1 := by omega
        rw [h2]; rfl
      · exact absurd (List.length_eq_zero_iff.mp h) hnd.2
    · intro h
      rw [rest_live h]
      have h2 := (not_done h).1
      simp only at h2
      have h3 : ¬ (p.turns - 1 = -1) := by have := hnd.1; omega
      simp only [if_neg h3]
      obtain ⟨k, hk⟩ : ∃ k, p.turns.toNat - 1 = k + 1 := ⟨p.turns.toNat - 2, by omega⟩
      have hk' : (p.turns - 1).toNat - 1 = k := by omega
      have e1 : (p.over + 1).toNat = p.over.toNat + 1 := by omega
      have e2 : ((p.over.toNat + 1 : Nat) : Int) = p.over + 1 := by omega
      rw [hk, hk', laps, e1, e2]
      simp
theorem rest_take {p : PE} (hd : p.done = false) (h0 : 0 ≤ p.place) (h1 : p.place < p.ns.length) :
    p.rest = (p.over, p.ns.getD p.place.toNat 0) :: (⟨p.ns, p.turns, p.place + 1, p.over⟩ : PE).rest := by
  have hd' : (⟨p.ns, p.turns, p.place + 1, p.over⟩ : PE).done = false := hd
  rw [rest_live hd, rest_live hd']
  have hk : p.place.toNat < p.ns.length := by omega
  have e1 : p.ns.drop p.place.toNat = p.ns.getD p.place.toNat 0 :: p.ns.drop (p.place.toNat + 1) := by
    rw [List.drop_eq_getElem_cons hk]
    simp [List.getD, hk]
  have e2 : (p.place + 1).toNat = p.place.toNat + 1 := by omega
  rw [e1]
  simp only [e2, List.map_cons, List.cons_append]
theorem Rel.up {i : Nat} {l q} (h : Rel i l q) : Rel (i + 1) l q := by
  induction h with
  | nil => exact .nil
  | cons h _ ih => exact .cons ⟨h.1, h.2.1, h.2.2.1, by have := h.2.2.2.1; omega, h.2.2.2.2⟩ ih
theorem Rel.length {i : Nat} {l q} (h : Rel i l q) : l.length = q.length := by
  induction h with
  | nil => rfl
  | cons _ _ ih => simp [ih]
theorem settle_rel {i : Nat} (hi : i ≤ 30) {l q} (h : Rel i l q) : (settle l = [] ∧ osettle q = []) ∨
    ∃ p r x qs, settle l = p :: r ∧ osettle q = x :: qs ∧ x.1 = p.rest ∧ p.done = false ∧ 0 ≤ p.place ∧ p.place < p.ns.length ∧ 0 ≤ p.over ∧ p.over ≤ (i + 1 : Nat) ∧ -1 ≤ p.turns ∧ Rel i r qs := by
  induction h with
  | nil => exact .inl ⟨rfl, rfl⟩
  | @cons p x ps qs h1 h2 ih =>
    obtain ⟨x1, x2⟩ := x
    obtain ⟨e1, e2, o0, o1, t0, p0, p1⟩ := h1
    simp only at e1 e2
    cases hd : p.done with
    | true =>
      have hr : p.rest = [] := rest_done hd
      rw [hr] at e1
      subst e1
      rw [settle, if_pos hd, osettle]
      simpa using ih
    | false =>
      have hd' : ¬ p.done = true := by rw [hd]; decide
      cases hb : p.between with
      | true =>
        have hbt := rest_between hd hb o0 (by omega) t0
        cases ht : p.turn.done with
        | true =>
          rw [hbt.1 ht] at e1
          subst e1
          rw [settle, if_neg hd', if_pos hb, if_pos ht, osettle]
          simpa using ih
        | false =>
          have ht' : ¬ p.turn.done = true := by rw [ht]; decide
          right
          have hn := not_done hd
          have hlen : 0 < p.ns.length := List.length_pos_iff.mpr hn.2
          refine ⟨p.turn, ps, (x1, x2), qs, ?_, ?_, ?_, ht, by simp [PE.turn], by simp [PE.turn]; omega, by simp only [PE.turn]; omega, by simp only [PE.turn]; omega, ?_, h2⟩
          · rw [settle, if_neg hd', if_pos hb, if_neg ht']
          · rw [osettle, e1, hbt.2 ht, rest_take ht (by simp [PE.turn]) (by simp [PE.turn]; omega)]
            rfl
          · simp only; rw [e1, hbt.2 ht]
          · simp only [PE.turn]; split <;> omega
      | false =>
        have hb' : ¬ p.between = true := by rw [hb]; decide
        have hlt : p.place < p.ns.length := by
          have : ¬ p.place = (p.ns.length : Int) := of_decide_eq_false hb
          omega
        right
        refine ⟨p, ps, (x1, x2), qs, ?_, ?_, e1, hd, p0, hlt, o0, by omega, t0, h2⟩
        · rw [settle, if_neg hd', if_neg hb']
        · rw [osettle, e1, rest_take hd p0 hlt]
          rfl
/-- the next event is the one that the law's own list tells -/
theorem next_rel {i : Nat} (hi : i ≤ 30) {l q} (h : Rel i l q) : (nextR l).1 = (onextR q).1 ∧ Rel (i + 1) (nextR l).2 (onextR q).2 ∧ ((nextR l).1 = none → (nextR l).2 = []) ∧
    (∀ e, (nextR l).1 = some e → ∃ p r, (nextR l).2 = p :: r ∧ p.done = false) := by
  rcases settle_rel hi h with ⟨h1, h2⟩ | ⟨p, r, x, qs, h1, h2, e, hd, p0, p1, o0, o1, t0, hr⟩
  · unfold nextR onextR
    rw [h1, h2]
    exact ⟨rfl, .nil, (fun _ => rfl), (fun _ h => nomatch h)⟩
  · obtain ⟨x1, x2⟩ := x
    simp only at e
    rw [rest_take hd p0 p1] at e
    subst e
    unfold nextR onextR
    rw [h1, h2]
    refine ⟨rfl, .cons ⟨rfl, rfl, o0, by simpa using o1, t0, by simp only; omega, by simp only; omega⟩ hr.up, (fun h => nomatch h), (fun _ _ => ⟨_, _, rfl, hd⟩)⟩
def PE.skip (p : PE) : PE := ⟨p.ns, p.turns, p.ns.length, p.over⟩
def PE.last (p : PE) : PE := ⟨p.ns, 1, p.ns.length, p.over⟩
theorem laps_lap {ns : List Int} : ∀ {n a : Nat} {x : Int × Int}, x ∈ laps ns a n → (a : Int) ≤ x.1
  | 0, _, _, h => nomatch h
  | n + 1, a, x, h => by
    rw [laps] at h
    rcases List.mem_append.mp h with h | h
    · obtain ⟨e, _, rfl⟩ := List.mem_map.mp h
      simp
    · have := laps_lap h
      omega
theorem skip_rel {i : Nat} {p : PE} {x : List (Int × Int) × Int} {r qs} (h : Rel i (p :: r) (x :: qs)) : Rel i (p.skip :: r) ((x.1.filter (fun y => y.1 != x.2), x.2) :: qs) := by
  cases h with
  | cons h hr =>
    obtain ⟨e1, e2, o0, o1, t0, p0, p1⟩ := h
    refine .cons ⟨?_, e2, o0, o1, t0, by simp [PE.skip], by simp [PE.skip]⟩ hr
    simp only
    rw [e1, e2]
    cases hd : p.done with
    | true =>
      have hd' : p.skip.done = true := hd
      rw [rest_done hd, rest_done hd']; rfl
    | false =>
      have hd' : p.skip.done = false := hd
      rw [rest_live hd, rest_live hd', List.filter_append]
      have f1 : List.filter (fun y : Int × Int => y.1 != p.over) ((p.ns.drop p.place.toNat).map fun e => (p.over, e)) = [] := by
        rw [List.filter_eq_nil_iff]
        intro a ha
        obtain ⟨e, _, rfl⟩ := List.mem_map.mp ha
        simp
      have f2 : ∀ n, List.filter (fun y : Int × Int => y.1 != p.over) (laps p.ns (p.over.toNat + 1) n) = laps p.ns (p.over.toNat + 1) n := by
        intro n
        rw [List.filter_eq_self]
        intro a ha
        have := laps_lap ha
        simp only [bne_iff_ne, ne_eq]
        omega
      have e3 : p.skip.ns.drop p.skip.place.toNat = [] := by simp [PE.skip]
      rw [f1, f2, e3]
      rfl
theorem last_rel {i : Nat} {p : PE} {x : List (Int × Int) × Int} {r qs} (h : Rel i (p :: r) (x :: qs)) : Rel i (p.last :: r) (([], x.2) :: qs) := by
  cases h with
  | cons h hr =>
    obtain ⟨e1, e2, o0, o1, t0, p0, p1⟩ := h
    refine .cons ⟨?_, e2, o0, o1, by simp [PE.last], by simp [PE.last], by simp [PE.last]⟩ hr
    unfold PE.rest PE.last
    simp [laps]
theorem push_rel {i : Nat} {l q} (h : Rel i l q) {ns : List Int} {turns : Int} (ht : -1 ≤ turns) (ht3 : turns ≤ 3) (hn : ns = [] → turns = 1) :
    Rel i (⟨ns, turns, 0, 0⟩ :: l) ((laidP ns (if turns = -1 then 40 else turns.toNat), 0) :: q) := by
  refine .cons ⟨?_, rfl, by simp, by simp, ht, by simp, by simp⟩ h
  simp only
  rw [laidP_laps]
  by_cases h0 : turns = 0 ∨ ns = []
  · have : (⟨ns, turns, 0, 0⟩ : PE).rest = [] := by unfold PE.rest; rw [if_pos h0]
    rw [this]
    rcases h0 with h0 | h0
    · subst h0; rfl
    · have e := hn h0
      subst h0; subst e; rfl
  · have : (⟨ns, turns, 0, 0⟩ : PE).done = false := by
      simp only [not_or] at h0
      simp [PE.done, h0]
    rw [rest_live this]
    simp only [not_or] at h0
    by_cases h1 : turns = -1
    · subst h1; rfl
    · rw [if_neg h1, if_neg h1]
      obtain ⟨k, hk⟩ : ∃ k, turns.toNat = k + 1 := ⟨turns.toNat - 1, by omega⟩
      rw [hk, laps]
      simp
theorem bottom_rel {i : Nat} {l : List PE} {q} {p : PE} {x} (h : Rel i (l ++ [p]) (q ++ [x])) : x.2 = p.over := by
  have hl := h.length
  simp only [List.length_append, List.length_cons, List.length_nil] at hl
  induction l generalizing q with
  | nil =>
    have : q = [] := List.length_eq_zero_iff.mp (by simp only [List.length_nil] at hl; omega)
    subst this
    cases h with
    | cons h _ => exact h.2.1
  | cons a l ih =>
    cases q with
    | nil => simp at hl
    | cons b q =>
      cases h with
      | cons _ h => exact ih h (by simpa using hl)
end Mine
namespace Mine
def optV : Option Int → Nat → Value
  | none, _ => .none
  | some i, u => .int i u
section
variable {w : World} {cO cB dk cL px pd pl ol tS n n' : Nat} {es es2 : List Ent} {os os2 : List Ow} {Z news : List (Addr × Obj)} {o1 o2 o3 o4 : Obj}
theorem Wld.shrinkP (W : Wld cO cB dk cL px pd pl ol es os Z) (hs : List.Sublist (adrs es2) (adrs es)) (ge : ∀ e ∈ es2, e.Good) (le : es2.length ≤ 10) : Wld cO cB dk cL px pd pl ol es2 os Z := by
  obtain ⟨h1, h2, h3, h4, h5, h6⟩ := W.split
  obtain ⟨z1, z2, z3⟩ := W.zoff
  have hs' : List.Sublist (px :: pd :: pl :: adrs es2) (px :: pd :: pl :: adrs es) := ((hs.cons_cons pl).cons_cons pd).cons_cons px
  exact Wld.make h1 (h2.sublist hs') h3 (fun a ha b hb => h4 a ha b (hs'.subset hb)) h5 (fun a ha b hb => h6 a (hs'.subset ha) b hb) z1 (fun p hp b hb => z2 p hp b (hs'.subset hb)) z3 ge W.go le W.lo
theorem Wld.shrinkO (W : Wld cO cB dk cL px pd pl ol es os Z) (hs : List.Sublist (oadr os2) (oadr os)) (go : ∀ o ∈ os2, o.Good) (lo : os2.length ≤ 10) : Wld cO cB dk cL px pd pl ol es os2 Z := by
  obtain ⟨h1, h2, h3, h4, h5, h6⟩ := W.split
  obtain ⟨z1, z2, z3⟩ := W.zoff
  have hs' : List.Sublist (ol :: oadr os2) (ol :: oadr os) := hs.cons_cons ol
  exact Wld.make h1 h2 (h3.sublist hs') h4 (fun a ha b hb => h5 a ha b (hs'.subset hb)) (fun a ha b hb => h6 a ha b (hs'.subset hb)) z1 z2 (fun p hp b hb => z3 p hp b (hs'.subset hb)) W.ge go W.le lo
theorem Wld.offP (W : Wld cO cB dk cL px pd pl ol es os Z) : OwnOff ((cO, o1) :: (cB, o2) :: (dk, o3) :: (cL, o4) :: (ownLed ol n' os ++ Z)) (px :: pd :: pl :: adrs es) := by
  obtain ⟨h1, h2, h3, h4, h5, h6⟩ := W.split
  intro p hp b hb
  simp only [List.mem_cons, List.mem_append] at hp
  rcases hp with rfl | rfl | rfl | rfl | h | h
  · exact h4 _ (by simp) b hb
  · exact h4 _ (by simp) b hb
  · exact h4 _ (by simp) b hb
  · exact h4 _ (by simp) b hb
  · exact Ne.symm (h6 b hb p.1 (mem_own h))
  · exact W.zoff.2.1 p h b hb
theorem Wld.offO (W : Wld cO cB dk cL px pd pl ol es os Z) : OwnOff ((cO, o1) :: (cB, o2) :: (dk, o3) :: (cL, o4) :: (plLed w px pd tS pl n es ++ Z)) (ol :: oadr os) := by
  obtain ⟨h1, h2, h3, h4, h5, h6⟩ := W.split
  intro p hp b hb
  simp only [List.mem_cons, List.mem_append] at hp
  rcases hp with rfl | rfl | rfl | rfl | h | h
  · exact h5 _ (by simp) b hb
  · exact h5 _ (by simp) b hb
  · exact h5 _ (by simp) b hb
  · exact h5 _ (by simp) b hb
  · exact h6 p.1 (mem_pl h) b hb
  · exact W.zoff.2.2 p h b hb
/-- the four first objects, then what the player and the law's list hold -/
def Lw (w : World) (cO cB dk cL px pd tS pl n ol n' : Nat) (o1 o2 o3 o4 : Obj) (es : List Ent) (os : List Ow) (Z : List (Addr × Obj)) : List (Addr × Obj) :=
  (cO, o1) :: (cB, o2) :: (dk, o3) :: (cL, o4) :: (plLed w px pd tS pl n es ++ (ownLed ol n' os ++ Z))
theorem lw_p : ∀ p, p ∈ Lw w cO cB dk cL px pd tS pl n ol n' o1 o2 o3 o4 es os Z ↔ p ∈ plLed w px pd tS pl n es ++ ((cO, o1) :: (cB, o2) :: (dk, o3) :: (cL, o4) :: (ownLed ol n' os ++ Z)) := by
  intro p
  simp only [Lw, List.mem_cons, List.mem_append, or_assoc]
  constructor
  · rintro (h | h | h | h | h | h | h) <;> (repeat (first | exact h | exact Or.inl h | apply Or.inr))
  · rintro (h | h | h | h | h | h | h) <;> (repeat (first | exact h | exact Or.inl h | apply Or.inr))
theorem lw_o : ∀ p, p ∈ Lw w cO cB dk cL px pd tS pl n ol n' o1 o2 o3 o4 es os Z ↔ p ∈ ownLed ol n' os ++ ((cO, o1) :: (cB, o2) :: (dk, o3) :: (cL, o4) :: (plLed w px pd tS pl n es ++ Z)) := by
  intro p
  simp only [Lw, List.mem_cons, List.mem_append, or_assoc]
  constructor
  · rintro (h | h | h | h | h | h | h) <;> (repeat (first | exact h | exact Or.inl h | apply Or.inr))
  · rintro (h | h | h | h | h | h | h) <;> (repeat (first | exact h | exact Or.inl h | apply Or.inr))
theorem next_main (W : Wld cO cB dk cL px pd pl ol es os Z) (hs : ∀ p ∈ Lw w cO cB dk cL px pd tS pl n ol n' o1 o2 o3 o4 es os Z, p ∈ news) :
    Tell 800 w 147 [.ref px] news (fun r nw => ∃ n2 es2, nw = Lw w cO cB dk cL px pd tS pl n2 ol n' o1 o2 o3 o4 es2 os Z ∧ Wld cO cB dk cL px pd pl ol es2 os Z ∧ pes es2 = (nextR (pes es)).2 ∧ ∃ u, r = optV (nextR (pes es)).1 u) := by
  have hn : ([px, pd, pl] ++ adrs es : List Nat).Nodup := W.split.2.1
  refine (next0 w px pd tS pl n es ((cO, o1) :: (cB, o2) :: (dk, o3) :: (cL, o4) :: (ownLed ol n' os ++ Z)) W.ge W.le hn W.offP).conv (fun p hp => hs p ((lw_p p).mpr hp)) ?_
  rintro r nw ⟨n2, es2, rfl, hpre, hg, hl, hp, hr⟩
  refine ⟨_, ⟨n2, es2, rfl, W.shrinkP hpre.sublist hg hl, hp, ?_⟩, fun p hp => (lw_p p).mp hp⟩
  cases he : (nextR (pes es)).1 with
  | none => rw [he] at hr; exact ⟨0, hr⟩
  | some i => rw [he] at hr; obtain ⟨u, hu⟩ := hr; exact ⟨u, hu⟩
theorem own_main (W : Wld cO cB dk cL px pd pl ol es os Z) (hs : ∀ p ∈ Lw w cO cB dk cL px pd tS pl n ol n' o1 o2 o3 o4 es os Z, p ∈ news) :
    Tell 800 w 159 [.ref ol] news (fun r nw => ∃ n2 os2, nw = Lw w cO cB dk cL px pd tS pl n ol n2 o1 o2 o3 o4 es os2 Z ∧ Wld cO cB dk cL px pd pl ol es os2 Z ∧ oes os2 = (onextR (oes os)).2 ∧ ∃ u, r = optV (onextR (oes os)).1 u) := by
  refine (own_next0 w ol n' os ((cO, o1) :: (cB, o2) :: (dk, o3) :: (cL, o4) :: (plLed w px pd tS pl n es ++ Z)) W.go W.lo W.split.2.2.1 W.offO).conv (fun p hp => hs p ((lw_o p).mpr hp)) ?_
  rintro r nw ⟨n2, os2, rfl, hsub, hg, hl, hp, hr⟩
  refine ⟨_, ⟨n2, os2, rfl, W.shrinkO hsub hg hl, hp, ?_⟩, fun p hp => (lw_o p).mp hp⟩
  cases he : (onextR (oes os)).1 with
  | none => rw [he] at hr; exact ⟨0, hr⟩
  | some i => rw [he] at hr; obtain ⟨u, hu⟩ := hr; exact ⟨u, hu⟩
end
end Mine
namespace Mine
theorem skip0 (w : World) (x pd t pl n ex ed ev t1 t2 t3 t4 t5 kt kp ko : Nat) (turns place over : Int) (evs pre : List Value) (hlen : evs.length ≤ 63) (h1 : @Ne Nat x ed) (h2 : @Ne Nat pd ed) (h3 : @Ne Nat pl ed) (h4 : @Ne Nat ex ed) (h5 : @Ne Nat ev ed) (R : List (Addr × Obj)) (hR : ∀ p ∈ R, @Ne Nat p.1 ed) :
    Tell 850 w 119 [.ref x] ((ed, entDict w t1 t2 t3 t4 t5 ev turns kt place kp over ko) :: ([(x, instObj 129 pd), (pd, plDict w t pl), (pl, listOf (pre ++ [Value.ref ex]).toArray n), (ex, instObj 59 ed), (ev, tupOf evs)] ++ R))
      (fun r nw => ∃ kp' : Nat, r = .none ∧ nw = (ed, entDict w t1 t2 t3 t4 t5 ev turns kt (evs.length : Int) kp' over ko) :: ([(x, instObj 129 pd), (pd, plDict w t pl), (pl, listOf (pre ++ [Value.ref ex]).toArray n), (ex, instObj 59 ed), (ev, tupOf evs)] ++ R)) := by
  unfold Tell
  k_fill
  rintro dp un gd cn sc a ccd cl outer A₀ base h₀ L m mg mb mean ⟨hp, gens, drawn, toks, os⟩ Q E B F X N T hkind hd hu hret
  simp only [List.cons_append, List.nil_append] at N hret
  have hoff : OwnOff R [ed] := fun p hp b hb => by rw [List.mem_singleton.mp hb]; exact hR p hp
  w_on
  have hMk : KstMark := kstMark
  refine wpAny_call ?_
  k_dflt cell_enter
  k_steps
  all_goals (refine hret _ _ _ _ ?_ (by k_asm) (by k_asm))
  all_goals (exact ⟨_, rfl, rfl⟩)
theorem last0 (w : World) (x pd t pl n ex ed ev t1 t2 t3 t4 t5 kt kp ko : Nat) (turns place over : Int) (evs pre : List Value) (hlen : evs.length ≤ 63) (h1 : @Ne Nat x ed) (h2 : @Ne Nat pd ed) (h3 : @Ne Nat pl ed) (h4 : @Ne Nat ex ed) (h5 : @Ne Nat ev ed) (R : List (Addr × Obj)) (hR : ∀ p ∈ R, @Ne Nat p.1 ed) :
    Tell 800 w 126 [.ref x] ((ed, entDict w t1 t2 t3 t4 t5 ev turns kt place kp over ko) :: ([(x, instObj 129 pd), (pd, plDict w t pl), (pl, listOf (pre ++ [Value.ref ex]).toArray n), (ex, instObj 59 ed), (ev, tupOf evs)] ++ R))
      (fun r nw => ∃ kt' kp' : Nat, r = .none ∧ nw = (ed, entDict w t1 t2 t3 t4 t5 ev 1 kt' (evs.length : Int) kp' over ko) :: ([(x, instObj 129 pd), (pd, plDict w t pl), (pl, listOf (pre ++ [Value.ref ex]).toArray n), (ex, instObj 59 ed), (ev, tupOf evs)] ++ R)) := by
  unfold Tell
  k_fill
  rintro dp un gd cn sc a ccd cl outer A₀ base h₀ L m mg mb mean ⟨hp, gens, drawn, toks, os⟩ Q E B F X N T hkind hd hu hret
  simp only [List.cons_append, List.nil_append] at N hret
  have hoff : OwnOff R [ed] := fun p hp b hb => by rw [List.mem_singleton.mp hb]; exact hR p hp
  w_on
  have hMk : KstMark := kstMark
  refine wpAny_call ?_
  k_dflt cell_enter
  k_steps
  rename Fr _ _ _ _ => F9
  rename News _ _ _ _ => N9
  obtain ⟨kt', N4⟩ : ∃ kt', News _ _ _ ((ed, entDict w t1 t2 t3 t4 t5 ev 1 kt' place kp over ko) :: ([(x, instObj 129 pd), (pd, plDict w t pl), (pl, listOf (pre ++ [Value.ref ex]).toArray n), (ex, instObj 59 ed), (ev, tupOf evs)] ++ R)) := ⟨_, N9⟩
  clear N9
  dsimp only
  refine Tell.use (skip0 w x pd t pl n ex ed ev t1 t2 t3 t4 t5 kt' kp ko 1 place over evs pre hlen h1 h2 h3 h4 h5 R hR) (by k_asm) F9 (by k_asm) N4 (by k_asm) (by rfl) (by dsimp only [Around.deeper, ktrTop]; omega) (by dsimp only [Around.deeper, ktrTop]; omega) ?_
  rintro _ h' tk' _ ⟨kp', rfl, rfl⟩ F' N'
  clear N4 F9
  k_steps
  refine hret _ _ _ _ ?_ (by k_asm) (by k_asm)
  exact ⟨kt', kp', rfl, rfl⟩
theorem stopA (w : World) (x pd t pl n : Nat) (h1 : @Ne Nat x pd) (h3 : @Ne Nat pl pd) (R : List (Addr × Obj)) (hR : ∀ p ∈ R, @Ne Nat p.1 pd) :
    Tell 800 w 112 [.ref x] ((pd, plDict w t pl) :: ([(x, instObj 129 pd), (pl, listOf (#[] : Array Value) n)] ++ R))
      (fun r nw => ∃ l' u : Nat, r = .int 0 u ∧ nw = (l', listOf (#[] : Array Value) 0) :: (pd, plDict w t l') :: ([(x, instObj 129 pd), (pl, listOf (#[] : Array Value) n)] ++ R) ∧ ∀ p ∈ (pd, plDict w t pl) :: ([(x, instObj 129 pd), (pl, listOf (#[] : Array Value) n)] ++ R), @LT.lt Nat _ p.1 l') := by
  unfold Tell
  k_fill
  rintro dp un gd cn sc a ccd cl outer A₀ base h₀ L m mg mb mean ⟨hp, gens, drawn, toks, os⟩ Q E B F X N T hkind hd hu hret
  simp only [List.cons_append, List.nil_append] at N hret ⊢
  have hoff : OwnOff R [pd] := fun p hp b hb => by rw [List.mem_singleton.mp hb]; exact hR p hp
  w_on
  have hMk : KstMark := kstMark
  refine wpAny_call ?_
  k_dflt cell_enter
  k_steps
  all_goals (first | (rename (List.isEmpty _ = true) => hb; exact absurd hb (by simp)) | skip)
  rename Fr h₀ _ _ _ => F9
  rename News h₀ _ _ _ => N9
  rename (_ ∧ _) => hl
  obtain ⟨l2, l1, hl2, N2⟩ : ∃ l2 l1 : Nat, (@LT.lt Nat _ l1 l2 ∧ @LT.lt Nat _ pd l2 ∧ @LT.lt Nat _ x l2 ∧ @LT.lt Nat _ pl l2 ∧ AllLt l2 R) ∧ News h₀ L _ ((l2, listOf (#[] : Array Value) 0) :: (l1, listOf (#[] : Array Value) 0) :: (pd, plDict w t l2) :: (x, instObj 129 pd) :: (pl, listOf (#[] : Array Value) n) :: R) := ⟨_, _, hl, N9⟩
  refine hret _ _ _ _ ⟨l2, _, rfl, rfl, fun p hp => ?_⟩ F9 (fun p hp => N2 p ?_)
  · obtain ⟨_, a1, a2, a3, a4⟩ := hl2
    simp only [List.mem_cons] at hp
    rcases hp with rfl | rfl | rfl | h
    · exact a1
    · exact a2
    · exact a3
    · exact kst_ltOf a4 p h
  · simp only [List.mem_cons] at hp ⊢
    rcases hp with h | h | h | h | h <;> simp [h]
theorem stopB (w : World) (x pd t pl n ex ed ev t1 t2 t3 t4 t5 kt kp ko : Nat) (turns place over : Int) (us : List Value) (h1 : @Ne Nat x pd) (h3 : @Ne Nat pl pd) (h4 : @Ne Nat ex pd) (h5 : @Ne Nat ed pd) (R : List (Addr × Obj)) (hR : ∀ p ∈ R, @Ne Nat p.1 pd) :
    Tell 800 w 112 [.ref x] ((pd, plDict w t pl) :: ([(x, instObj 129 pd), (pl, listOf (Value.ref ex :: us).toArray n), (ex, instObj 59 ed), (ed, entDict w t1 t2 t3 t4 t5 ev turns kt place kp over ko)] ++ R))
      (fun r nw => ∃ l' u : Nat, r = .int over u ∧ nw = (l', listOf (#[] : Array Value) 0) :: (pd, plDict w t l') :: ([(x, instObj 129 pd), (pl, listOf (Value.ref ex :: us).toArray n), (ex, instObj 59 ed), (ed, entDict w t1 t2 t3 t4 t5 ev turns kt place kp over ko)] ++ R) ∧
        ∀ p ∈ (pd, plDict w t pl) :: ([(x, instObj 129 pd), (pl, listOf (Value.ref ex :: us).toArray n), (ex, instObj 59 ed), (ed, entDict w t1 t2 t3 t4 t5 ev turns kt place kp over ko)] ++ R), @LT.lt Nat _ p.1 l') := by
  unfold Tell
  k_fill
  rintro dp un gd cn sc a ccd cl outer A₀ base h₀ L m mg mb mean ⟨hp, gens, drawn, toks, os⟩ Q E B F X N T hkind hd hu hret
  simp only [List.cons_append, List.nil_append] at N hret ⊢
  have hoff : OwnOff R [pd] := fun p hp b hb => by rw [List.mem_singleton.mp hb]; exact hR p hp
  w_on
  have hMk : KstMark := kstMark
  refine wpAny_call ?_
  k_dflt cell_enter
  k_steps
  all_goals (first | (rename (List.isEmpty _ = true) => hb; exact absurd hb (by simp)) | skip)
  rename Fr h₀ _ _ _ => F9
  rename News h₀ _ _ _ => N9
  rename (_ ∧ _) => hl
  obtain ⟨l2, l1, hl2, N2⟩ : ∃ l2 l1 : Nat, (@LT.lt Nat _ l1 l2 ∧ @LT.lt Nat _ pd l2 ∧ @LT.lt Nat _ x l2 ∧ @LT.lt Nat _ pl l2 ∧ @LT.lt Nat _ ex l2 ∧ @LT.lt Nat _ ed l2 ∧ AllLt l2 R) ∧ News h₀ L _ ((l2, listOf (#[] : Array Value) 0) :: (l1, listOf (#[] : Array Value) 0) :: (pd, plDict w t l2) :: (x, instObj 129 pd) :: (pl, listOf (Value.ref ex :: us).toArray n) :: (ex, instObj 59 ed) :: (ed, entDict w t1 t2 t3 t4 t5 ev turns kt place kp over ko) :: R) := ⟨_, _, hl, N9⟩
  refine hret _ _ _ _ ⟨l2, _, rfl, rfl, fun p hp => ?_⟩ F9 (fun p hp => N2 p ?_)
  · obtain ⟨_, a1, a2, a3, a5, a6, a4⟩ := hl2
    simp only [List.mem_cons] at hp
    rcases hp with rfl | rfl | rfl | rfl | rfl | h
    · exact a1
    · exact a2
    · exact a3
    · exact a5
    · exact a6
    · exact kst_ltOf a4 p h
  · simp only [List.mem_cons] at hp ⊢
    rcases hp with h | h | h | h | h | h | h <;> simp [h]
end Mine
namespace Mine
section
variable {w : World} {cO cB dk cL px pd pl ol tS n n' : Nat} {es : List Ent} {e e' : Ent} {os : List Ow} {Z news : List (Addr × Obj)} {o1 o2 o3 o4 : Obj}
theorem Wld.swapTop (W : Wld cO cB dk cL px pd pl ol (es ++ [e]) os Z) (h1 : e'.x = e.x) (h2 : e'.d = e.d) (h3 : e'.ev = e.ev) (hg : e'.Good) : Wld cO cB dk cL px pd pl ol (es ++ [e']) os Z := by
  refine W.shrinkP (es2 := es ++ [e']) ?_ ?_ ?_
  · rw [adrs_app, adrs_app, h1, h2, h3]
    exact List.Sublist.refl _
  · intro a ha
    rcases List.mem_append.mp ha with h | h
    · exact W.ge a (List.mem_append.mpr (.inl h))
    · rw [List.mem_singleton.mp h]; exact hg
  · simpa using W.le
theorem topFacts (W : Wld cO cB dk cL px pd pl ol (es ++ [e]) os Z) : (@Ne Nat px e.d ∧ @Ne Nat pd e.d ∧ @Ne Nat pl e.d ∧ @Ne Nat e.x e.d ∧ @Ne Nat e.ev e.d) ∧
    ∀ p ∈ es.flatMap (entL w) ++ ((cO, o1) :: (cB, o2) :: (dk, o3) :: (cL, o4) :: (ownLed ol n' os ++ Z)), @Ne Nat p.1 e.d := by
  have hn : ([px, pd, pl] ++ adrs (es ++ [e]) : List Nat).Nodup := W.split.2.1
  have ho : OwnOff ((cO, o1) :: (cB, o2) :: (dk, o3) :: (cL, o4) :: (ownLed ol n' os ++ Z)) ([px, pd, pl] ++ adrs (es ++ [e])) := W.offP
  obtain ⟨a, b⟩ := apart_top (w := w) hn ho
  simp only [List.nodup_cons, List.mem_cons, List.not_mem_nil, or_false, not_or, not_false_eq_true, List.nodup_nil, and_true] at a
  refine ⟨⟨a.1.2.2.2.1, a.2.1.2.2.1, a.2.2.1.2.1, a.2.2.2.1.1, Ne.symm a.2.2.2.2⟩, fun p hp => b p hp e.d (by simp)⟩
theorem top_led {R : List (Addr × Obj)} : ∀ p, p ∈ (e.d, entDictOf w e) :: ([(px, instObj 129 pd), (pd, plDict w tS pl), (pl, listOf (stk es ++ [Value.ref e.x]).toArray n), (e.x, instObj 59 e.d), (e.ev, tupOf e.evs)] ++ (es.flatMap (entL w) ++ R)) ↔ p ∈ plLed w px pd tS pl n (es ++ [e]) ++ R := by
  intro p
  rw [← top_of_led]
  unfold plTop
  simp only [List.mem_cons, List.mem_append, List.not_mem_nil, or_false, or_assoc]
  constructor
  · rintro (h | h | h | h | h | h | h | h) <;> (repeat (first | exact h | exact Or.inl h | apply Or.inr))
  · rintro (h | h | h | h | h | h | h | h) <;> (repeat (first | exact h | exact Or.inl h | apply Or.inr))
theorem skip_main (W : Wld cO cB dk cL px pd pl ol (es ++ [e]) os Z) (hs : ∀ p ∈ Lw w cO cB dk cL px pd tS pl n ol n' o1 o2 o3 o4 (es ++ [e]) os Z, p ∈ news) :
    Tell 850 w 119 [.ref px] news (fun r nw => ∃ e2 : Ent, r = .none ∧ nw = Lw w cO cB dk cL px pd tS pl n ol n' o1 o2 o3 o4 (es ++ [e2]) os Z ∧ Wld cO cB dk cL px pd pl ol (es ++ [e2]) os Z ∧ e2.pe = e.pe.skip) := by
  obtain ⟨⟨a1, a2, a3, a4, a5⟩, hR⟩ := topFacts (w := w) (n' := n') (o1 := o1) (o2 := o2) (o3 := o3) (o4 := o4) W
  obtain ⟨hi, hl4, hp0, hp1⟩ := W.ge e (by simp)
  refine (skip0 w px pd tS pl n e.x e.d e.ev e.t1 e.t2 e.t3 e.t4 e.t5 e.kt e.kp e.ko e.turns e.place e.over e.evs (stk es) (by omega) a1 a2 a3 a4 a5 _ hR).conv (fun p hp => hs p ((lw_p p).mpr ((top_led p).mp hp))) ?_
  rintro r nw ⟨kp', rfl, rfl⟩
  refine ⟨_, ⟨{ e with place := (e.evs.length : Int), kp := kp' }, rfl, rfl, W.swapTop rfl rfl rfl ⟨hi, hl4, by simp, by simp [hi.length]⟩, ?_⟩, fun p hp => (top_led (e := { e with place := (e.evs.length : Int), kp := kp' }) p).mpr ((lw_p p).mp hp)⟩
  simp [Ent.pe, PE.skip, hi.length]
theorem last_main (W : Wld cO cB dk cL px pd pl ol (es ++ [e]) os Z) (hs : ∀ p ∈ Lw w cO cB dk cL px pd tS pl n ol n' o1 o2 o3 o4 (es ++ [e]) os Z, p ∈ news) :
    Tell 800 w 126 [.ref px] news (fun r nw => ∃ e2 : Ent, r = .none ∧ nw = Lw w cO cB dk cL px pd tS pl n ol n' o1 o2 o3 o4 (es ++ [e2]) os Z ∧ Wld cO cB dk cL px pd pl ol (es ++ [e2]) os Z ∧ e2.pe = e.pe.last) := by
  obtain ⟨⟨a1, a2, a3, a4, a5⟩, hR⟩ := topFacts (w := w) (n' := n') (o1 := o1) (o2 := o2) (o3 := o3) (o4 := o4) W
  obtain ⟨hi, hl4, hp0, hp1⟩ := W.ge e (by simp)
  refine (last0 w px pd tS pl n e.x e.d e.ev e.t1 e.t2 e.t3 e.t4 e.t5 e.kt e.kp e.ko e.turns e.place e.over e.evs (stk es) (by omega) a1 a2 a3 a4 a5 _ hR).conv (fun p hp => hs p ((lw_p p).mpr ((top_led p).mp hp))) ?_
  rintro r nw ⟨kt', kp', rfl, rfl⟩
  refine ⟨_, ⟨{ e with turns := 1, kt := kt', place := (e.evs.length : Int), kp := kp' }, rfl, rfl, W.swapTop rfl rfl rfl ⟨hi, hl4, by simp, by simp [hi.length]⟩, ?_⟩, fun p hp => (top_led (e := { e with turns := 1, kt := kt', place := (e.evs.length : Int), kp := kp' }) p).mpr ((lw_p p).mp hp)⟩
  simp [Ent.pe, PE.last, hi.length]
def bottomOver : List Ent → Int
  | [] => 0
  | e :: _ => e.over
theorem stop_main (W : Wld cO cB dk cL px pd pl ol es os Z) (hs : ∀ p ∈ Lw w cO cB dk cL px pd tS pl n ol n' o1 o2 o3 o4 es os Z, p ∈ news) :
    Tell 800 w 112 [.ref px] news (fun r nw => ∃ l2 u : Nat, r = .int (bottomOver es) u ∧ nw = Lw w cO cB dk cL px pd tS l2 0 ol n' o1 o2 o3 o4 [] os Z ∧ Wld cO cB dk cL px pd l2 ol [] os Z) := by
  obtain ⟨h1, h2, h3, h4, h5, h6⟩ := W.split
  obtain ⟨z1, z2, z3⟩ := W.zoff
  have hfin : ∀ l2 : Nat, (∀ p ∈ Lw w cO cB dk cL px pd tS pl n ol n' o1 o2 o3 o4 es os Z, @LT.lt Nat _ p.1 l2) → Wld cO cB dk cL px pd l2 ol [] os Z := by
    intro l2 hl
    have hl4 : ∀ a ∈ ([cO, cB, dk, cL] : List Nat), a < l2 := by
      intro a ha
      simp only [List.mem_cons, List.not_mem_nil, or_false] at ha
      rcases ha with rfl | rfl | rfl | rfl
      · exact hl (_, o1) (by simp [Lw])
      · exact hl (_, o2) (by simp [Lw])
      · exact hl (_, o3) (by simp [Lw])
      · exact hl (_, o4) (by simp [Lw])
    have hlo : ∀ a ∈ (ol :: oadr os : List Nat), a < l2 := by
      intro a ha
      have : ∃ o, (a, o) ∈ ownLed ol n' os := by
        rcases List.mem_cons.mp ha with rfl | h
        · exact ⟨_, .head _⟩
        · rw [← oadr_fst] at h
          obtain ⟨q, hq, rfl⟩ := List.mem_map.mp h
          exact ⟨q.2, .tail _ hq⟩
      obtain ⟨o, ho⟩ := this
      exact hl (a, o) (by simp [Lw, ho])
    have hpx : px < l2 := hl (px, instObj 129 pd) (by simp [Lw, plLed])
    have hpd : pd < l2 := hl (pd, plDict w tS pl) (by simp [Lw, plLed])
    have hz : ∀ p ∈ Z, @LT.lt Nat _ p.1 l2 := fun p hp => hl p (by simp [Lw, hp])
    have hnpp : px ≠ pd := fun h => (List.nodup_cons.mp h2).1 (by simp [h])
    refine Wld.make h1 ?_ h3 ?_ h5 ?_ z1 ?_ z3 (fun _ h => nomatch h) W.go (by simp) W.lo
    · simp only [adrs, List.flatMap_nil, List.nodup_cons, List.mem_cons, List.not_mem_nil, or_false, not_or, not_false_eq_true, List.nodup_nil, and_true]
      exact ⟨⟨hnpp, Nat.ne_of_lt hpx⟩, Nat.ne_of_lt hpd⟩
    · intro a ha b hb
      simp only [adrs, List.flatMap_nil, List.mem_cons, List.not_mem_nil, or_false] at hb
      rcases hb with rfl | rfl | rfl
      · exact h4 a ha _ (by simp)
      · exact h4 a ha _ (by simp)
      · exact Nat.ne_of_lt (hl4 a ha)
    · intro a ha b hb
      simp only [adrs, List.flatMap_nil, List.mem_cons, List.not_mem_nil, or_false] at ha
      rcases ha with rfl | rfl | rfl
      · exact h6 _ (by simp) b hb
      · exact h6 _ (by simp) b hb
      · exact Nat.ne_of_gt (hlo b hb)
    · intro p hp b hb
      simp only [adrs, List.flatMap_nil, List.mem_cons, List.not_mem_nil, or_false] at hb
      rcases hb with rfl | rfl | rfl
      · exact z2 p hp _ (by simp)
      · exact z2 p hp _ (by simp)
      · exact Nat.ne_of_lt (hz p hp)
  have hoff : ∀ p ∈ (cO, o1) :: (cB, o2) :: (dk, o3) :: (cL, o4) :: (ownLed ol n' os ++ Z), @Ne Nat p.1 pd := fun p hp => (W.offP (n' := n')) p hp pd (by simp)
  have hn := h2
  simp only [List.nodup_cons, List.mem_cons, not_or] at hn
  cases es with
  | nil =>
    refine (stopA w px pd tS pl n hn.1.1 (Ne.symm hn.2.1.1) ((cO, o1) :: (cB, o2) :: (dk, o3) :: (cL, o4) :: (ownLed ol n' os ++ Z)) hoff).conv (fun p hp => hs p ((lw_p p).mpr ?_)) ?_
    · simp only [plLed, stk, List.map_nil, List.flatMap_nil, List.mem_cons, List.mem_append, List.not_mem_nil, or_false] at hp ⊢
      grind
    · rintro r nw ⟨l2, u, rfl, rfl, hl⟩
      refine ⟨_, ⟨l2, u, rfl, rfl, hfin l2 fun p hp => hl p ?_⟩, fun p hp => ?_⟩
      · have := (lw_p p).mp hp
        simp only [plLed, stk, List.map_nil, List.flatMap_nil, List.mem_cons, List.mem_append, List.not_mem_nil, or_false] at this ⊢
        grind
      · have := (lw_p p).mp hp
        simp only [plLed, stk, List.map_nil, List.flatMap_nil, List.mem_cons, List.mem_append, List.not_mem_nil, or_false] at this ⊢
        grind
  | cons e r =>
    have hne : @Ne Nat e.x pd ∧ @Ne Nat e.d pd ∧ (∀ p ∈ (e.ev, tupOf e.evs) :: r.flatMap (entL w), @Ne Nat p.1 pd) := by
      have hpd : ∀ b ∈ adrs (e :: r), b ≠ pd := fun b hb h => hn.2.1.2 (h ▸ hb)
      refine ⟨hpd _ (by simp [adrs]), hpd _ (by simp [adrs]), fun p hp => hpd _ ?_⟩
      rcases List.mem_cons.mp hp with rfl | h
      · simp [adrs]
      · have := mem_adrs h
        simp only [adrs, List.flatMap_cons, List.mem_append] at this ⊢
        exact .inr this
    refine (stopB w px pd tS pl n e.x e.d e.ev e.t1 e.t2 e.t3 e.t4 e.t5 e.kt e.kp e.ko e.turns e.place e.over (stk r) hn.1.1 (Ne.symm hn.2.1.1) hne.1 hne.2.1 ((e.ev, tupOf e.evs) :: (r.flatMap (entL w) ++ ((cO, o1) :: (cB, o2) :: (dk, o3) :: (cL, o4) :: (ownLed ol n' os ++ Z)))) ?_).conv (fun p hp => hs p ((lw_p p).mpr ?_)) ?_
    · intro p hp
      rcases List.mem_cons.mp hp with h | h
      · exact hne.2.2 p (by rw [h]; exact .head _)
      · rcases List.mem_append.mp h with h | h
        · exact hne.2.2 p (.tail _ h)
        · exact hoff p h
    · simp only [plLed, stk, List.map_cons, List.flatMap_cons, entL, List.mem_cons, List.mem_append, List.not_mem_nil, or_false] at hp ⊢
      grind
    · rintro r' nw ⟨l2, u, rfl, rfl, hl⟩
      refine ⟨_, ⟨l2, u, rfl, rfl, hfin l2 fun p hp => hl p ?_⟩, fun p hp => ?_⟩
      · have := (lw_p p).mp hp
        simp only [plLed, stk, List.map_cons, List.flatMap_cons, entL, List.mem_cons, List.mem_append, List.not_mem_nil, or_false] at this ⊢
        grind
      · have := (lw_p p).mp hp
        simp only [plLed, stk, List.map_nil, List.flatMap_nil, List.mem_cons, List.mem_append, List.not_mem_nil, or_false] at this ⊢
        grind
theorem law_end {cs : List Value} {i : Nat} {h₀ h' : Heap} {L : Addr} {m' : PySem.Str → Option Value} {news' : List (Addr × Obj)} {s₁ : Shared} {tk' : Nat} {oc bc : Obj} {k : Int} {tk n0 : Nat} {bv : Option Value}
    (F : Fr h₀ L h' m') (N : News h₀ L h' news') (h1 : m' (PySem.Str.ofString "player") = some (Value.ref px)) (h2 : m' (PySem.Str.ofString "deck") = some (Value.ref dk))
    (hs : ∀ p ∈ Lw w cO cB dk cL px pd tS pl n ol n' oc bc (listOf #[.ref cL, .int k tk] n0) (PyProof.Rows.LCg.lst cs) es os Z, p ∈ news') (hoc : oc.data = .cell (some (.ref ol))) (hbc : bc.data = .cell bv)
    (hk0 : 0 ≤ k) (hk : k ≤ 1 + 3 * ((i + 1 : Nat) : Int)) (W : Wld cO cB dk cL px pd pl ol es os Z) (R : Rel (i + 1) (pes es) (oes os)) :
    InvEndG h₀ L (LawJ w cO cB dk cL px pd tS cs (i + 1)) Z s₁ { s₁ with heap := h', toks := tk' } := by
  refine InvEndG.intro (nx := (cO, oc) :: (cB, bc) :: (dk, listOf #[.ref cL, .int k tk] n0) :: (cL, PyProof.Rows.LCg.lst cs) :: (plLed w px pd tS pl n es ++ ownLed ol n' os)) F N
    ⟨m', oc, bc, k, tk, n0, n, n', ol, pl, es, os, lawMap_eq h1 h2, rfl, hoc, ⟨bv, hbc⟩, hk0, hk, ⟨W.nd, (fun _ h => nomatch h), W.ge, W.go, W.le, W.lo⟩, R⟩ ?_ (fun p hp => hs p ?_) (fun p hp => hs p ?_)
  · intro p hp b hb
    refine W.off p hp b ?_
    simp only [wad, plLed, ownLed, List.map_cons, List.map_append, adrs_fst, oadr_fst, List.mem_cons, List.mem_append, List.not_mem_nil, or_false] at hb ⊢
    grind
  · simp only [Lw, List.mem_cons, List.mem_append] at hp ⊢
    grind
  · simp only [Lw, List.mem_cons, List.mem_append]
    grind
theorem Rel.top {i : Nat} {es : List Ent} {os : List Ow} {p : PE} {r : List PE} (hR : Rel i (pes es) (oes os)) (h : pes es = p :: r) : ∃ es3 e os3 o, es = es3 ++ [e] ∧ os = os3 ++ [o] ∧ e.pe = p ∧ pes es3 = r := by
  rcases nil_or_app es with rfl | ⟨es3, e, rfl⟩
  · simp [pes] at h
  · rcases nil_or_app os with rfl | ⟨os3, o, rfl⟩
    · have := hR.length
      simp [pes, oes] at this
    · rw [pes_app] at h
      exact ⟨es3, e, os3, o, rfl, rfl, (List.cons.inj h).1, (List.cons.inj h).2⟩
end
end Mine
namespace Mine
/-- a halt of the walk: what stands here is gone on with by hand -/
structure Stop (P : Prop) : Prop where
  go : P
theorem item_snd {prog : Program} {w : World} {news : List (Addr × Obj)} {A : Around} {E : Value → Shared → Prop} {s : Shared} {h₀ : Heap} {L D : Addr} {a v : Value} {vs : List Value} {k : Nat} {u : Tok} {value slice : PySem.Expr} {Q : Value → Shared → Prop}
    (N : News h₀ L s.heap news) (hm : (D, listOf (a :: v :: vs).toArray k) ∈ news) (h : Q v s)
    (hs : subscripted slice false (.ref D) (.int 1 u) = operate [.ref D, .int 1 u] (getItem (.ref D) (.int 1 u)) := by with_unfolding_all rfl) :
    wpAny (model prog w) A (subscriptTail value slice (.ref D) (.int 1 u)) Q E s := by
  have hl := isList_of N hm
  exact tail_any hl.typeIs slot_list_getitem.lookup (wpAny_getItem_list (x := v) hl (by omega) (by omega) (by simp) h) hs
end Mine
local macro_rules | `(tactic| walk_at "call ref") => `(tactic| ((with_reducible show wpAny _ _ (PySem.call (Value.ref 147) _ _) _ _ _); refine Mine.Stop.go ?_))
local macro_rules | `(tactic| walk_at "call ref") => `(tactic| ((with_reducible show wpAny _ _ (PySem.call (Value.ref 159) _ _) _ _ _); refine Mine.Stop.go ?_))
local macro_rules | `(tactic| walk_at "call ref") => `(tactic| ((with_reducible show wpAny _ _ (PySem.call (Value.ref 119) _ _) _ _ _); refine Mine.Stop.go ?_))
local macro_rules | `(tactic| walk_at "call ref") => `(tactic| ((with_reducible show wpAny _ _ (PySem.call (Value.ref 126) _ _) _ _ _); refine Mine.Stop.go ?_))
local macro_rules | `(tactic| walk_at "call ref") => `(tactic| ((with_reducible show wpAny _ _ (PySem.call (Value.ref 112) _ _) _ _ _); refine Mine.Stop.go ?_))
local macro_rules | `(tactic| walk_at "call ref") => `(tactic| ((with_reducible show wpAny _ _ (PySem.call (Value.ref 98) _ _) _ _ _); refine Mine.Stop.go ?_))
local macro_rules | `(tactic| walk_at "call ref") => `(tactic| ((with_reducible show wpAny _ _ (PySem.call (Value.ref 152) _ _) _ _ _); refine Mine.Stop.go ?_))
local macro_rules | `(tactic| walk_at "subscriptTail") => `(tactic| (k_here; (with_reducible show wpAny _ _ (subscriptTail _ _ (Value.ref _) (Value.int 1 _)) _ _ _); k_dflt (refine' Mine.item_snd ?k1 ?k2 ?_ ?k3; (case k1 => k_asm); (case k2 => k_mem); (case k3 => with_unfolding_all rfl); k_whole)))
namespace Mine
theorem begin_full (w : World) (x pd t pl n ev tt : Nat) (turns : Int) (vs : List Value) (hlen : vs.length = 10) (R : List (Addr × Obj)) :
    Tell 800 w 98 [.ref x, .ref ev, .int turns tt, .none] ([(x, instObj 129 pd), (pd, plDict w t pl), (pl, listOf vs.toArray n)] ++ R)
      (fun r nw => (∃ _ : Nat, r = .bool false) ∧ nw = [(x, instObj 129 pd), (pd, plDict w t pl), (pl, listOf vs.toArray n)] ++ R) := by
  unfold Tell
  k_fill
  rintro dp un gd cn sc a ccd cl outer A₀ base h₀ L m mg mb mean ⟨hp, gens, drawn, toks, os⟩ Q E B F X N T hkind hd hu hret
  simp only [List.cons_append, List.nil_append] at N hret
  w_on
  have hMk : KstMark := kstMark
  refine wpAny_call ?_
  k_dflt cell_enter
  k_steps
  all_goals (refine hret _ _ _ _ ?_ (by k_asm) (by k_asm))
  all_goals (exact ⟨⟨0, rfl⟩, rfl⟩)
theorem begin_room (w : World) (x pd t pl n ev tt : Nat) (turns : Int) (vs evs : List Value) (hlen : vs.length < 10) (hlen2 : evs.length ≤ 63) (h1 : @Ne Nat x pl) (h2 : @Ne Nat pd pl) (h3 : @Ne Nat ev pl) (R : List (Addr × Obj)) (hR : ∀ p ∈ R, @Ne Nat p.1 pl) :
    Tell 800 w 98 [.ref x, .ref ev, .int turns tt, .none] ((pl, listOf vs.toArray n) :: ([(x, instObj 129 pd), (pd, plDict w t pl), (ev, tupOf evs)] ++ R))
      (fun r nw => ∃ ex ed t1 t2 t3 t4 t5 kt kp ko n' : Nat, r = .bool true ∧ nw = (ex, instObj 59 ed) :: (ed, entDict w t1 t2 t3 t4 t5 ev turns kt 0 kp 0 ko) :: (pl, listOf (vs ++ [Value.ref ex]).toArray n') :: ([(x, instObj 129 pd), (pd, plDict w t pl), (ev, tupOf evs)] ++ R) ∧
        @Ne Nat ex ed ∧ ∀ p ∈ (pl, listOf vs.toArray n) :: ([(x, instObj 129 pd), (pd, plDict w t pl), (ev, tupOf evs)] ++ R), @LT.lt Nat _ p.1 ex ∧ @LT.lt Nat _ p.1 ed) := by
  unfold Tell
  k_fill
  rintro dp un gd cn sc a ccd cl outer A₀ base h₀ L m mg mb mean ⟨hp, gens, drawn, toks, os⟩ Q E B F X N T hkind hd hu hret
  simp only [List.cons_append, List.nil_append] at N hret
  have hoff : OwnOff R [pl] := fun p hp b hb => by rw [List.mem_singleton.mp hb]; exact hR p hp
  w_on
  have hMk : KstMark := kstMark
  refine wpAny_call ?_
  k_dflt cell_enter
  k_steps
  k_dflt (refine' call_cls ?k1 ?k2 ?k3 ?k4 ?k5 ?k6 ?_; (case k1 => k_asm); (case k2 => k_asm); (case k3 => k_asm); (case k4 => k_is); (case k5 => k_is); (case k6 => k_is); k_whole)
  intro x' d' h' F' N' l1 l2
  (try k_lt l1); (try k_lt2 l2); (try k_sweep)
  k_dflt (refine' code_def ?k1 ?k2 ?k3 ?k4 ?k5 ?kA ?kF ?kK ?k6 ?k7 ?k8 ?k9 ?kB ?_ ?c2 ?c3 ?c4 ?c5; (case kA => exact rfl); (case kF => exact rfl); (case kK => exact rfl); (case k1 => k_asm); (case k2 => k_asm); (case k3 => k_asm); (case k4 => k_asm); (case k5 => k_asm); (case k6 => k_is); (case k7 => k_is); (case k8 => ktr_room); (case k9 => exact BindsTo.of_eq rfl); (case c5 => decide); (case kB => exact locs rfl); (case c2 => exact rfl); (case c3 => exact rfl); (case c4 => exact rfl); k_whole; intro g' L' h' FG' F' N' B' X' T'; (try dsimp only); (try k_lift B'); (try k_fold))
  k_steps
  rename Fr h₀ _ _ _ => F9
  rename News h₀ _ _ _ => N9
  simp only [List.push_toArray] at N9
  obtain ⟨t1, t2, t3, t4, t5, kt, kp, ko, n', N10⟩ : ∃ t1 t2 t3 t4 t5 kt kp ko n' : Nat, News h₀ L _ ((x', instObj 59 d') :: (d', entDict w t1 t2 t3 t4 t5 ev turns kt 0 kp 0 ko) :: (pl, listOf (vs ++ [Value.ref x']).toArray n') :: (x, instObj 129 pd) :: (pd, plDict w t pl) :: (ev, tupOf evs) :: R) := ⟨_, _, _, _, _, _, _, _, _, N9⟩
  have l1' : AllLt d' ((pl, listOf vs.toArray n) :: ([(x, instObj 129 pd), (pd, plDict w t pl), (ev, tupOf evs)] ++ R)) := l1
  refine hret _ _ _ _ ⟨x', d', t1, t2, t3, t4, t5, kt, kp, ko, n', rfl, rfl, Nat.ne_of_gt l2, fun p hp => ?_⟩ F9 N10
  have h := kst_ltOf l1' p hp
  exact ⟨Nat.lt_trans h l2, h⟩
end Mine
namespace Mine
section
variable {w : World} {cO cB dk cL px pd pl ol tS n n' : Nat} {es : List Ent} {e e' : Ent} {os : List Ow} {o : Ow} {Z news : List (Addr × Obj)} {o1 o2 o3 o4 : Obj}
theorem Wld.dkFacts (W : Wld cO cB dk cL px pd pl ol es os Z) : (@Ne Nat px dk ∧ @Ne Nat pd dk ∧ @Ne Nat pl dk ∧ @Ne Nat ol dk) ∧ OwnOff (es.flatMap (entL w) ++ (os.flatMap owL ++ Z)) [dk] := by
  obtain ⟨_, _, _, h4, h5, _⟩ := W.split
  have hd : dk ∈ ([cO, cB, dk, cL] : List Nat) := by simp
  refine ⟨⟨Ne.symm (h4 dk hd px (by simp)), Ne.symm (h4 dk hd pd (by simp)), Ne.symm (h4 dk hd pl (by simp)), Ne.symm (h5 dk hd ol (by simp))⟩, fun p hp b hb => ?_⟩
  rw [List.mem_singleton.mp hb]
  rcases List.mem_append.mp hp with h | h
  · exact Ne.symm (h4 dk hd p.1 (by have := mem_adrs h; simp [this]))
  · rcases List.mem_append.mp h with h | h
    · exact Ne.symm (h5 dk hd p.1 (by have := mem_oadr h; simp [this]))
    · exact W.zoff.1 p h dk hd
theorem Wld.oxFacts (W : Wld cO cB dk cL px pd pl ol es (os ++ [o]) Z) : (@Ne Nat cO o.x ∧ @Ne Nat cB o.x ∧ @Ne Nat dk o.x ∧ @Ne Nat cL o.x ∧ @Ne Nat ol o.x ∧ @Ne Nat o.l o.x) ∧
    OwnOff (o.ps.map Pr.o ++ (os.flatMap owL ++ (plLed w px pd tS pl n es ++ Z))) [o.x] := by
  obtain ⟨a, b⟩ := oapart W.split.2.2.1 (W.offO (w := w) (tS := tS) (n := n) (o1 := tupOf []) (o2 := tupOf []) (o3 := tupOf []) (o4 := tupOf []))
  have hb : ∀ p ∈ os.flatMap owL ++ ((cO, tupOf []) :: (cB, tupOf []) :: (dk, tupOf []) :: (cL, tupOf []) :: (plLed w px pd tS pl n es ++ Z)), @Ne Nat p.1 o.x := fun p hp => b p hp o.x (by simp)
  have ha : (ol ≠ o.x) ∧ (o.x ≠ o.l) ∧ o.x ∉ o.ps.map Pr.a := by
    simp only [List.nodup_cons, List.mem_cons, not_or] at a
    exact ⟨a.1.1, a.2.1.1, a.2.1.2⟩
  refine ⟨⟨hb (cO, tupOf []) (by simp), hb (cB, tupOf []) (by simp), hb (dk, tupOf []) (by simp), hb (cL, tupOf []) (by simp), ha.1, Ne.symm ha.2.1⟩, fun p hp c hc => ?_⟩
  rw [List.mem_singleton.mp hc]
  rcases List.mem_append.mp hp with h | h
  · obtain ⟨q, hq, rfl⟩ := List.mem_map.mp h
    intro e'
    exact ha.2.2 (List.mem_map.mpr ⟨q, hq, e'⟩)
  · refine hb p ?_
    simp only [List.mem_append, List.mem_cons] at h ⊢
    rcases h with h | h | h <;> simp [h]
theorem pl_adr {a : Nat} (h : a ∈ (px :: pd :: pl :: adrs es : List Nat)) : ∃ q, (a, q) ∈ plLed w px pd tS pl n es := by
  simp only [List.mem_cons] at h
  rcases h with rfl | rfl | rfl | h
  · exact ⟨_, .head _⟩
  · exact ⟨_, .tail _ (.head _)⟩
  · exact ⟨_, .tail _ (.tail _ (.head _))⟩
  · rw [← adrs_fst w] at h
    obtain ⟨q, hq, rfl⟩ := List.mem_map.mp h
    exact ⟨q.2, .tail _ (.tail _ (.tail _ hq))⟩
theorem own_adr {a : Nat} (h : a ∈ (ol :: oadr os : List Nat)) : ∃ q, (a, q) ∈ ownLed ol n' os := by
  rcases List.mem_cons.mp h with rfl | h
  · exact ⟨_, .head _⟩
  · rw [← oadr_fst] at h
    obtain ⟨q, hq, rfl⟩ := List.mem_map.mp h
    exact ⟨q.2, .tail _ hq⟩
/-- an address that no entry of the ledger bears is apart from the whole world -/
theorem lw_new {D : Nat} (hD : ∀ p ∈ Lw w cO cB dk cL px pd tS pl n ol n' o1 o2 o3 o4 es os Z, @Ne Nat p.1 D) :
    (∀ a ∈ ([cO, cB, dk, cL] : List Nat), a ≠ D) ∧ (∀ a ∈ (px :: pd :: pl :: adrs es : List Nat), a ≠ D) ∧ (∀ a ∈ (ol :: oadr os : List Nat), a ≠ D) ∧ ∀ p ∈ Z, @Ne Nat p.1 D := by
  refine ⟨fun a ha => ?_, fun a ha => ?_, fun a ha => ?_, fun p hp => hD p (by simp [Lw, hp])⟩
  · simp only [List.mem_cons, List.not_mem_nil, or_false] at ha
    rcases ha with rfl | rfl | rfl | rfl
    · exact hD (_, o1) (by simp [Lw])
    · exact hD (_, o2) (by simp [Lw])
    · exact hD (_, o3) (by simp [Lw])
    · exact hD (_, o4) (by simp [Lw])
  · obtain ⟨q, hq⟩ := pl_adr (w := w) (tS := tS) (n := n) ha
    exact hD (a, q) (by simp [Lw, hq])
  · obtain ⟨q, hq⟩ := own_adr (n' := n') ha
    exact hD (a, q) (by simp [Lw, hq])
/-- the top of the law's list takes a new list -/
theorem Wld.newL {D : Nat} {oo : Ow} (W : Wld cO cB dk cL px pd pl ol es (os ++ [o]) Z) (hD : ∀ p ∈ Lw w cO cB dk cL px pd tS pl n ol n' o1 o2 o3 o4 es (os ++ [o]) Z, @Ne Nat p.1 D)
    (h1 : oo.x = o.x) (h2 : oo.l = D) (h3 : List.Sublist oo.ps o.ps) : Wld cO cB dk cL px pd pl ol es (os ++ [oo]) Z := by
  obtain ⟨s1, s2, s3, s4, s5, s6⟩ := W.split
  obtain ⟨z1, z2, z3⟩ := W.zoff
  obtain ⟨d1, d2, d3, d4⟩ := lw_new hD
  have hsub : List.Sublist (ol :: (oadr os ++ (o.x :: oo.ps.map Pr.a)) : List Nat) (ol :: oadr (os ++ [o])) := by
    rw [oadr_app]
    exact (List.Sublist.append_left ((List.Sublist.cons _ (h3.map Pr.a)).cons_cons o.x) _).cons_cons ol
  have hperm : (ol :: oadr (os ++ [oo]) : List Nat).Perm (D :: (ol :: (oadr os ++ (o.x :: oo.ps.map Pr.a)))) := by
    rw [oadr_app, h1, h2]
    have a1 : (o.x :: D :: oo.ps.map Pr.a : List Nat).Perm (D :: o.x :: oo.ps.map Pr.a) := List.Perm.swap _ _ _
    have a2 := (a1.append_left (oadr os)).trans List.perm_middle
    exact (a2.cons ol).trans (List.Perm.swap _ _ _)
  have hmem : ∀ b ∈ (ol :: oadr (os ++ [oo]) : List Nat), b = D ∨ b ∈ (ol :: oadr (os ++ [o]) : List Nat) := fun b hb =>
    (List.mem_cons.mp (hperm.mem_iff.mp hb)).imp id fun h => hsub.subset h
  refine Wld.make s1 s2 (hperm.nodup_iff.mpr (List.nodup_cons.mpr ⟨fun h => d3 D (hsub.subset h) rfl, s3.sublist hsub⟩)) s4 (fun a ha b hb => ?_) (fun a ha b hb => ?_) z1 z2 (fun p hp b hb => ?_) W.ge (fun q hq => ?_) W.le (by simpa using W.lo)
  · rcases hmem b hb with rfl | h
    · exact d1 a ha
    · exact s5 a ha b h
  · rcases hmem b hb with rfl | h
    · exact d2 a ha
    · exact s6 a ha b h
  · rcases hmem b hb with rfl | h
    · exact d4 p hp
    · exact z3 p hp b h
  · rcases List.mem_append.mp hq with h | h
    · exact W.go q (List.mem_append.mpr (.inl h))
    · rw [List.mem_singleton.mp h]
      exact Nat.le_trans h3.length_le (W.go o (by simp))
theorem skip_rel' {i : Nat} {oo : Ow} (h : Rel i (pes (es ++ [e])) (oes (os ++ [o]))) (he : e'.pe = e.pe.skip) (ho : oo.ps = o.ps.filter fun p => p.lap != o.lap) (hl : oo.lap = o.lap) : Rel i (pes (es ++ [e'])) (oes (os ++ [oo])) := by
  rw [pes_app, oes_app] at h ⊢
  have := skip_rel h
  rw [he]
  have e1 : oo.oe = (o.oe.1.filter (fun y => y.1 != o.oe.2), o.oe.2) := by
    unfold Ow.oe
    rw [ho, hl]
    simp only [List.filter_map]
    rfl
  rw [e1]
  exact this
theorem last_rel' {i : Nat} {oo : Ow} (h : Rel i (pes (es ++ [e])) (oes (os ++ [o]))) (he : e'.pe = e.pe.last) (ho : oo.ps = []) (hl : oo.lap = o.lap) : Rel i (pes (es ++ [e'])) (oes (os ++ [oo])) := by
  rw [pes_app, oes_app] at h ⊢
  have := last_rel h
  rw [he]
  have e1 : oo.oe = ([], o.oe.2) := by
    unfold Ow.oe
    rw [ho, hl]
    rfl
  rw [e1]
  exact this
/-- the ledger with the player and the law's list written out -/
def LwP (w : World) (cO cB dk cL px pd tS pl n ol n' : Nat) (o1 o2 o3 o4 : Obj) (es : List Ent) (os : List Ow) (Z : List (Addr × Obj)) : List (Addr × Obj) :=
  (cO, o1) :: (cB, o2) :: (dk, o3) :: (cL, o4) :: (px, instObj 129 pd) :: (pd, plDict w tS pl) :: (pl, listOf (stk es).toArray n) :: (ol, listOf (ostk os).toArray n') :: (es.flatMap (entL w) ++ (os.flatMap owL ++ Z))
theorem lwP_iff : ∀ p, p ∈ LwP w cO cB dk cL px pd tS pl n ol n' o1 o2 o3 o4 es os Z ↔ p ∈ Lw w cO cB dk cL px pd tS pl n ol n' o1 o2 o3 o4 es os Z := by
  intro p
  simp only [LwP, Lw, plLed, ownLed, List.mem_cons, List.mem_append, or_assoc]
  constructor
  · rintro (h | h | h | h | h | h | h | h | h | h | h) <;> (repeat (first | exact h | exact Or.inl h | apply Or.inr))
  · rintro (h | h | h | h | h | h | h | h | h | h | h) <;> (repeat (first | exact h | exact Or.inl h | apply Or.inr))
theorem mem_dup8 {α : Type} {a1 a2 a3 a4 a5 a6 a7 a8 x p : α} {T : List α} (hx : x ∈ T) (h : p ∈ a1 :: a2 :: a3 :: a4 :: a5 :: a6 :: a7 :: a8 :: x :: T) : p ∈ a1 :: a2 :: a3 :: a4 :: a5 :: a6 :: a7 :: a8 :: T := by
  simp only [List.mem_cons] at h ⊢
  rcases h with h | h | h | h | h | h | h | h | h | h
  all_goals (first | (subst h; simp [hx]; done) | simp [h])
theorem mem_ins8 {α : Type} {a1 a2 a3 a4 a5 a6 a7 a8 x p : α} {T : List α} (h : p ∈ a1 :: a2 :: a3 :: a4 :: a5 :: a6 :: a7 :: a8 :: T) : p ∈ a1 :: a2 :: a3 :: a4 :: a5 :: a6 :: a7 :: a8 :: x :: T := by
  simp only [List.mem_cons] at h ⊢
  rcases h with h | h | h | h | h | h | h | h | h <;> (repeat (first | exact h | exact Or.inl h | apply Or.inr))
/-- the ledger with the top of the law's list written out -/
def LwO (w : World) (cO cB dk cL px pd tS pl n ol n' : Nat) (o1 o2 o3 o4 : Obj) (es : List Ent) (os : List Ow) (o : Ow) (Z : List (Addr × Obj)) : List (Addr × Obj) :=
  (cO, o1) :: (cB, o2) :: (dk, o3) :: (cL, o4) :: (ol, listOf (ostk os ++ [Value.ref o.x]).toArray n') :: (o.x, listOf #[.ref o.l, .int o.lap o.kt] o.n1) :: (o.l, listOf (prs o.ps).toArray o.n2) ::
    (o.ps.map Pr.o ++ (os.flatMap owL ++ (plLed w px pd tS pl n es ++ Z)))
theorem lwO_iff : ∀ p, p ∈ LwO w cO cB dk cL px pd tS pl n ol n' o1 o2 o3 o4 es os o Z ↔ p ∈ Lw w cO cB dk cL px pd tS pl n ol n' o1 o2 o3 o4 es (os ++ [o]) Z := by
  intro p
  simp only [LwO, Lw, ownLed, ostk_app, owL, List.flatMap_append, List.flatMap_cons, List.flatMap_nil, List.append_nil, List.mem_cons, List.mem_append, or_assoc]
  constructor
  · rintro (h | h | h | h | h | h | h | h | h | h | h) <;> (repeat (first | exact h | exact Or.inl h | apply Or.inr))
  · rintro (h | h | h | h | h | h | h | h | h | h | h) <;> (repeat (first | exact h | exact Or.inl h | apply Or.inr))
theorem off1_mem {D : Addr} : ∀ {l : List (Addr × Obj)}, PyProof.Rows.LCg.Off1 D l → ∀ p ∈ l, @Ne Nat p.1 D
  | [], _, _, hp => nomatch hp
  | _ :: _, h, p, hp => by
    rcases List.mem_cons.mp hp with rfl | hp
    · exact h.1
    · exact off1_mem h.2 p hp
/-- the law's list begun anew -/
theorem Wld.newOl {D : Nat} (W : Wld cO cB dk cL px pd pl ol es os Z) (hD : ∀ p ∈ Lw w cO cB dk cL px pd tS pl n ol n' o1 o2 o3 o4 es os Z, @Ne Nat p.1 D) : Wld cO cB dk cL px pd pl D es [] Z := by
  obtain ⟨s1, s2, s3, s4, s5, s6⟩ := W.split
  obtain ⟨z1, z2, z3⟩ := W.zoff
  obtain ⟨d1, d2, d3, d4⟩ := lw_new hD
  have hm : ∀ b ∈ (D :: oadr [] : List Nat), b = D := fun b hb => by simpa [oadr] using hb
  refine Wld.make s1 s2 (by simp [oadr]) s4 (fun a ha b hb => ?_) (fun a ha b hb => ?_) z1 z2 (fun p hp b hb => ?_) W.ge (fun _ h => nomatch h) W.le (by simp)
  · rw [hm b hb]; exact d1 a ha
  · rw [hm b hb]; exact d2 a ha
  · rw [hm b hb]; exact d4 p hp
theorem bottom_over {i : Nat} {o0 : Ow} (h : Rel i (pes (e :: es)) (oes (o0 :: os))) : o0.lap = e.over := by
  have h1 : pes (e :: es) = pes es ++ [e.pe] := by simp [pes]
  have h2 : oes (o0 :: os) = oes os ++ [o0.oe] := by simp [oes]
  rw [h1, h2] at h
  exact bottom_rel h
theorem Wld.cOFacts (W : Wld cO cB dk cL px pd pl ol es os Z) : (@Ne Nat cB cO ∧ @Ne Nat dk cO ∧ @Ne Nat cL cO ∧ @Ne Nat px cO ∧ @Ne Nat pd cO ∧ @Ne Nat pl cO ∧ @Ne Nat ol cO) ∧
    OwnOff (es.flatMap (entL w) ++ (os.flatMap owL ++ Z)) [cO] ∧ OwnOff (os.flatMap owL ++ Z) [cO] ∧ OwnOff Z [cO] := by
  obtain ⟨_, _, _, h4, h5, _⟩ := W.split
  obtain ⟨f1, f2, f3, _⟩ := W.four
  have hd : cO ∈ ([cO, cB, dk, cL] : List Nat) := by simp
  have a3 : OwnOff Z [cO] := fun p hp b hb => by rw [List.mem_singleton.mp hb]; exact W.zoff.1 p hp cO hd
  have a2 : OwnOff (os.flatMap owL ++ Z) [cO] := fun p hp b hb => by
    rcases List.mem_append.mp hp with h | h
    · rw [List.mem_singleton.mp hb]
      exact Ne.symm (h5 cO hd p.1 (by have := mem_oadr h; simp [this]))
    · exact a3 p h b hb
  refine ⟨⟨Ne.symm f1, Ne.symm f2, Ne.symm f3, Ne.symm (h4 cO hd px (by simp)), Ne.symm (h4 cO hd pd (by simp)), Ne.symm (h4 cO hd pl (by simp)), Ne.symm (h5 cO hd ol (by simp))⟩, fun p hp b hb => ?_, a2, a3⟩
  rcases List.mem_append.mp hp with h | h
  · rw [List.mem_singleton.mp hb]
    exact Ne.symm (h4 cO hd p.1 (by have := mem_adrs h; simp [this]))
  · exact a2 p h b hb
end
end Mine
namespace Mine
section
variable {w : World} {cO cB dk cL px pd pl ol tS n n' : Nat} {es : List Ent} {e e' : Ent} {os : List Ow} {o : Ow} {Z news : List (Addr × Obj)} {o1 o2 o3 o4 : Obj}
theorem Wld.pushP (W : Wld cO cB dk cL px pd pl ol es os Z) (hg : e.Good) (hlt : es.length < 10) (hev : ∀ p ∈ Lw w cO cB dk cL px pd tS pl n ol n' o1 o2 o3 o4 es os Z, @LT.lt Nat _ p.1 e.ev)
    (h1 : e.ev < e.x) (h2 : e.ev < e.d) (h3 : e.x ≠ e.d) : Wld cO cB dk cL px pd pl ol (es ++ [e]) os Z := by
  obtain ⟨s1, s2, s3, s4, s5, s6⟩ := W.split
  obtain ⟨z1, z2, z3⟩ := W.zoff
  have hadr : (px :: pd :: pl :: adrs (es ++ [e]) : List Nat) = (px :: pd :: pl :: adrs es) ++ [e.x, e.d, e.ev] := by rw [adrs_app]; rfl
  have hle : ∀ b ∈ ([e.x, e.d, e.ev] : List Nat), e.ev ≤ b := by
    intro b hb
    simp only [List.mem_cons, List.not_mem_nil, or_false] at hb
    rcases hb with rfl | rfl | rfl
    · exact Nat.le_of_lt h1
    · exact Nat.le_of_lt h2
    · exact Nat.le_refl _
  have hn : ∀ b ∈ ([e.x, e.d, e.ev] : List Nat), ∀ p ∈ Lw w cO cB dk cL px pd tS pl n ol n' o1 o2 o3 o4 es os Z, @Ne Nat p.1 b := fun b hb p hp => Nat.ne_of_lt (Nat.lt_of_lt_of_le (hev p hp) (hle b hb))
  have hnd : ([e.x, e.d, e.ev] : List Nat).Nodup := by
    simp only [List.nodup_cons, List.mem_cons, List.not_mem_nil, or_false, not_or, not_false_eq_true, List.nodup_nil, and_true]
    exact ⟨⟨h3, Nat.ne_of_gt h1⟩, Nat.ne_of_gt h2⟩
  refine Wld.make s1 ?_ s3 ?_ s5 ?_ z1 ?_ z3 ?_ W.go (by simp; omega) W.lo
  · rw [hadr]
    exact List.nodup_append.mpr ⟨s2, hnd, fun a ha b hb => (lw_new (hn b hb)).2.1 a ha⟩
  · intro a ha b hb
    rw [hadr] at hb
    rcases List.mem_append.mp hb with h | h
    · exact s4 a ha b h
    · exact (lw_new (hn b h)).1 a ha
  · intro a ha b hb
    rw [hadr] at ha
    rcases List.mem_append.mp ha with h | h
    · exact s6 a h b hb
    · exact Ne.symm ((lw_new (hn a h)).2.2.1 b hb)
  · intro p hp b hb
    rw [hadr] at hb
    rcases List.mem_append.mp hb with h | h
    · exact z2 p hp b h
    · exact (lw_new (hn b h)).2.2.2 p hp
  · intro q hq
    rcases List.mem_append.mp hq with h | h
    · exact W.ge q h
    · rw [List.mem_singleton.mp h]; exact hg
theorem Wld.pushO (W : Wld cO cB dk cL px pd pl ol es os Z) (hg : o.Good) (hlt : os.length < 10) (hnd : (o.x :: o.l :: o.ps.map Pr.a : List Nat).Nodup)
    (hn : ∀ b ∈ (o.x :: o.l :: o.ps.map Pr.a : List Nat), ∀ p ∈ Lw w cO cB dk cL px pd tS pl n ol n' o1 o2 o3 o4 es os Z, @Ne Nat p.1 b) : Wld cO cB dk cL px pd pl ol es (os ++ [o]) Z := by
  obtain ⟨s1, s2, s3, s4, s5, s6⟩ := W.split
  obtain ⟨z1, z2, z3⟩ := W.zoff
  have hadr : (ol :: oadr (os ++ [o]) : List Nat) = (ol :: oadr os) ++ (o.x :: o.l :: o.ps.map Pr.a) := by rw [oadr_app]; rfl
  refine Wld.make s1 s2 ?_ s4 ?_ ?_ z1 z2 ?_ W.ge ?_ W.le (by simp; omega)
  · rw [hadr]
    exact List.nodup_append.mpr ⟨s3, hnd, fun a ha b hb => (lw_new (hn b hb)).2.2.1 a ha⟩
  · intro a ha b hb
    rw [hadr] at hb
    rcases List.mem_append.mp hb with h | h
    · exact s5 a ha b h
    · exact (lw_new (hn b h)).1 a ha
  · intro a ha b hb
    rw [hadr] at hb
    rcases List.mem_append.mp hb with h | h
    · exact s6 a ha b h
    · exact (lw_new (hn b h)).2.1 a ha
  · intro p hp b hb
    rw [hadr] at hb
    rcases List.mem_append.mp hb with h | h
    · exact z3 p hp b h
    · exact (lw_new (hn b h)).2.2.2 p hp
  · intro q hq
    rcases List.mem_append.mp hq with h | h
    · exact W.go q h
    · rw [List.mem_singleton.mp h]; exact hg
theorem begin_full_main (W : Wld cO cB dk cL px pd pl ol es os Z) {ev tt : Nat} {turns : Int} (hlen : es.length = 10) (hs : ∀ p ∈ Lw w cO cB dk cL px pd tS pl n ol n' o1 o2 o3 o4 es os Z, p ∈ news) :
    Tell 800 w 98 [.ref px, .ref ev, .int turns tt, .none] news (fun r nw => (∃ _ : Nat, r = .bool false) ∧ nw = news) :=
  Tell.read (r₀ := fun _ => .bool false) (begin_full w px pd tS pl n ev tt turns (stk es) (by simpa [stk] using hlen)) (by
    intro p hp
    refine hs p ?_
    simp only [Lw, plLed, List.mem_cons, List.mem_append, List.not_mem_nil, or_false] at hp ⊢
    rcases hp with h | h | h <;> simp [h])
theorem begin_main (W : Wld cO cB dk cL px pd pl ol es os Z) {ev tt : Nat} {turns : Int} {evs : List Value} {nse : List Int} (hlt : es.length < 10) (hi : IntsAre evs nse) (h4 : evs.length ≤ 4)
    (hev : ∀ p ∈ Lw w cO cB dk cL px pd tS pl n ol n' o1 o2 o3 o4 es os Z, @LT.lt Nat _ p.1 ev) (hm : (ev, tupOf evs) ∈ news) (hs : ∀ p ∈ Lw w cO cB dk cL px pd tS pl n ol n' o1 o2 o3 o4 es os Z, p ∈ news) :
    Tell 800 w 98 [.ref px, .ref ev, .int turns tt, .none] news (fun r nw => ∃ n2 e, r = .bool true ∧ nw = Lw w cO cB dk cL px pd tS pl n2 ol n' o1 o2 o3 o4 (es ++ [e]) os Z ∧ Wld cO cB dk cL px pd pl ol (es ++ [e]) os Z ∧
      e.pe = ⟨nse, turns, 0, 0⟩ ∧ e.ev = ev ∧ e.evs = evs) := by
  have hn := W.split.2.1
  simp only [List.nodup_cons, List.mem_cons, not_or] at hn
  have hpl := (lw_new (D := ev) (fun p hp => Nat.ne_of_lt (hev p hp))).2.1 pl (by simp)
  have hR : ∀ p ∈ es.flatMap (entL w) ++ ((cO, o1) :: (cB, o2) :: (dk, o3) :: (cL, o4) :: (ownLed ol n' os ++ Z)), @Ne Nat p.1 pl := by
    intro p hp
    rcases List.mem_append.mp hp with h | h
    · exact fun e' => hn.2.2.1 (e' ▸ mem_adrs h)
    · exact (W.offP (n' := n')) p h pl (by simp)
  refine (begin_room w px pd tS pl n ev tt turns (stk es) evs (by simpa [stk] using hlt) (by omega) hn.1.2.1 hn.2.1.1 (Ne.symm hpl) _ hR).conv (fun p hp => ?_) ?_
  · simp only [List.mem_cons, List.mem_append, List.not_mem_nil, or_false] at hp
    have hsub : ∀ q, q ∈ (pl, listOf (stk es).toArray n) :: (px, instObj 129 pd) :: (pd, plDict w tS pl) :: (es.flatMap (entL w) ++ ((cO, o1) :: (cB, o2) :: (dk, o3) :: (cL, o4) :: (ownLed ol n' os ++ Z))) → q ∈ Lw w cO cB dk cL px pd tS pl n ol n' o1 o2 o3 o4 es os Z := by
      intro q hq
      simp only [Lw, plLed, List.mem_cons, List.mem_append] at hq ⊢
      grind
    rcases hp with h | (h | h | h) | h
    · exact hs p (hsub p (by simp [h]))
    · exact hs p (hsub p (by simp [h]))
    · exact hs p (hsub p (by simp [h]))
    · rw [h]; exact hm
    · refine hs p (hsub p ?_)
      simp only [List.mem_cons, List.mem_append]
      rcases h with h | h
      · exact .inr (.inr (.inr (.inl h)))
      · exact .inr (.inr (.inr (.inr h)))
  · rintro r nw ⟨ex, ed, t1, t2, t3, t4, t5, kt, kp, ko, n2, rfl, rfl, hne, hlt2⟩
    have hevx := hlt2 (ev, tupOf evs) (by simp)
    refine ⟨_, ⟨n2, ⟨ex, ed, ev, evs, t1, t2, t3, t4, t5, kt, kp, ko, nse, turns, 0, 0⟩, rfl, rfl, W.pushP (e := ⟨ex, ed, ev, evs, t1, t2, t3, t4, t5, kt, kp, ko, nse, turns, 0, 0⟩) (w := w) (tS := tS) (n := n) (n' := n') (o1 := o1) (o2 := o2) (o3 := o3) (o4 := o4) ⟨hi, h4, by simp, by simp⟩ hlt hev hevx.1 hevx.2 hne, rfl, rfl, rfl⟩, fun p hp => ?_⟩
    simp only [Lw, plLed, stk_app, List.flatMap_append, List.flatMap_cons, List.flatMap_nil, List.append_nil, entL, List.mem_cons, List.mem_append, List.not_mem_nil, or_false] at hp ⊢
    grind
theorem laid_main {ev tt : Nat} {turns : Int} {evs : List Value} {nse : List Int} (hi : IntsAre evs nse) (h4 : evs.length ≤ 4) (ht0 : -1 ≤ turns) (ht1 : turns ≤ 3) (hm : (ev, tupOf evs) ∈ news) :
    Tell 800 w 152 [.ref ev, .int turns tt] news (fun r nw => ∃ l n2 ps, r = .ref l ∧ nw = (l, listOf (prs ps).toArray n2) :: (ps.map Pr.o ++ news) ∧
      ps.map Pr.p = laidP nse (if turns = -1 then 40 else turns.toNat) ∧ (l :: ps.map Pr.a : List Nat).Nodup ∧ ∀ b ∈ (l :: ps.map Pr.a : List Nat), ∀ p ∈ news, @LT.lt Nat _ p.1 b) := by
  refine (laid0 w ev evs nse hi h4 turns tt ht0 ht1 news).conv (fun p hp => ?_) ?_
  · rcases List.mem_cons.mp hp with h | h
    · rw [h]; exact hm
    · exact h
  · rintro r nw ⟨l, n2, ps, rfl, rfl, h1, h2, h3⟩
    refine ⟨_, ⟨l, n2, ps, rfl, rfl, h1, h2, fun b hb p hp => h3 b hb p (.tail _ hp)⟩, fun p hp => ?_⟩
    simp only [List.mem_cons, List.mem_append] at hp ⊢
    rcases hp with h | h | h
    · exact .inl h
    · exact .inr (.inl h)
    · exact .inr (.inr (.inr h))
theorem laid_len {ps : List Pr} {nse : List Int} {turns : Int} (h : ps.map Pr.p = laidP nse (if turns = -1 then 40 else turns.toNat)) (ht1 : turns ≤ 3) (h4 : nse.length ≤ 4) : ps.length ≤ 200 := by
  have h1 := congrArg List.length h
  rw [List.length_map, laidP_len] at h1
  have h2 : (if turns = -1 then 40 else turns.toNat) ≤ 40 := by split <;> omega
  have := Nat.mul_le_mul h2 h4
  omega
theorem item_menu {prog : Program} {A : Around} {E : Value → Shared → Prop} {s : Shared} {h₀ : Heap} {L D : Addr} {t1 t2 t3 t4 t5 : Tok} {k : Nat} {v : Int} {u : Tok} {value slice : PySem.Expr} {Q : Value → Shared → Prop}
    (N : News h₀ L s.heap news) (hm : (D, listOf #[.int 1 t1, .int 2 t2, .int 3 t3, .int 0 t4, .int (-1) t5] k) ∈ news) (h0 : 0 ≤ v) (h1 : v < 5) (h : ∀ x t, -1 ≤ x → x ≤ 3 → Q (.int x t) s)
    (hs : subscripted slice false (.ref D) (.int v u) = operate [.ref D, .int v u] (getItem (.ref D) (.int v u)) := by with_unfolding_all rfl) :
    wpAny (model prog w) A (subscriptTail value slice (.ref D) (.int v u)) Q E s := by
  have hl := isList_of (vs := [.int 1 t1, .int 2 t2, .int 3 t3, .int 0 t4, .int (-1) t5]) N hm
  have go : ∀ x t, (([.int 1 t1, .int 2 t2, .int 3 t3, .int 0 t4, .int (-1) t5] : List Value).toArray)[v.toNat]? = some (.int x t) → -1 ≤ x → x ≤ 3 → wpAny (model prog w) A (subscriptTail value slice (.ref D) (.int v u)) Q E s := fun x t hx a b =>
    tail_any hl.typeIs slot_list_getitem.lookup (wpAny_getItem_list (x := .int x t) hl h0 (by omega) hx (h x t a b)) hs
  rcases (show v = 0 ∨ v = 1 ∨ v = 2 ∨ v = 3 ∨ v = 4 by omega) with rfl | rfl | rfl | rfl | rfl
  · exact go 1 t1 rfl (by omega) (by omega)
  · exact go 2 t2 rfl (by omega) (by omega)
  · exact go 3 t3 rfl (by omega) (by omega)
  · exact go 0 t4 rfl (by omega) (by omega)
  · exact go (-1) t5 rfl (by omega) (by omega)
/-- of the ledger's addresses it matters not what they bear -/
theorem lw_ad {P : Nat → Prop} {q1 q2 q3 q4 : Obj} {m m' : Nat} (h : ∀ p ∈ Lw w cO cB dk cL px pd tS pl n ol n' o1 o2 o3 o4 es os Z, P p.1) : ∀ p ∈ Lw w cO cB dk cL px pd tS pl m ol m' q1 q2 q3 q4 es os Z, P p.1 := by
  intro p hp
  simp only [Lw, List.mem_cons, List.mem_append] at hp
  rcases hp with rfl | rfl | rfl | rfl | hp | hp | hp
  · exact h (cO, o1) (by simp [Lw])
  · exact h (cB, o2) (by simp [Lw])
  · exact h (dk, o3) (by simp [Lw])
  · exact h (cL, o4) (by simp [Lw])
  · obtain ⟨q, hq⟩ := pl_adr (w := w) (tS := tS) (n := n) (mem_pl hp)
    exact h (p.1, q) (by simp [Lw, hq])
  · obtain ⟨q, hq⟩ := own_adr (n' := n') (mem_own hp)
    exact h (p.1, q) (by simp [Lw, hq])
  · exact h p (by simp [Lw, hp])
/-- the two ways of the turns' number are one -/
structure IfPost (h₀ : Heap) (L : Addr) (s : Shared) (m : PySem.Str → Option Value) (led : List (Addr × Obj)) (nse : List Int) (v : Value) (s' : Shared) : Prop where
  go : ∃ tv u h tk, v = .int tv u ∧ s' = { s with heap := h, toks := tk } ∧ -1 ≤ tv ∧ tv ≤ 3 ∧ (nse = [] → tv = 1) ∧ Fr h₀ L h m ∧ News h₀ L h led
theorem IfPost.intro {h₀ h : Heap} {L : Addr} {s : Shared} {m : PySem.Str → Option Value} {led : List (Addr × Obj)} {nse : List Int} {tv : Int} {u tk : Nat} (h1 : -1 ≤ tv) (h2 : tv ≤ 3) (h3 : nse = [] → tv = 1) (F : Fr h₀ L h m) (N : News h₀ L h led) :
    IfPost h₀ L s m led nse (.int tv u) { s with heap := h, toks := tk } := ⟨tv, u, h, tk, rfl, rfl, h1, h2, h3, F, N⟩
theorem ifexp_join {M : Model} {A : Around} {E : Value → Shared → Prop} {s : Shared} {h₀ : Heap} {L : Addr} {m : PySem.Str → Option Value} {led : List (Addr × Obj)} {nse : List Int} {c : Sem Value} {Q : Value → Shared → Prop}
    (_F : Fr h₀ L s.heap m) (_N : News h₀ L s.heap led) (h1 : wpAny M A c (IfPost h₀ L s m led nse) E s)
    (h2 : ∀ tv u h tk, -1 ≤ tv → tv ≤ 3 → (nse = [] → tv = 1) → Fr h₀ L h m → News h₀ L h led → Q (.int tv u) { s with heap := h, toks := tk }) : wpAny M A c Q E s := by
  refine wpAny_mono h1 (fun v s' h => ?_) fun _ _ e => e
  obtain ⟨tv, u, g, tk, rfl, rfl, a, b, c, F, N⟩ := h.go
  exact h2 tv u g tk a b c F N
/-- a test that holds on every way is walked once -/
structure TruePost (h₀ : Heap) (L : Addr) (s : Shared) (m : PySem.Str → Option Value) (led : List (Addr × Obj)) (b : Bool) (s' : Shared) : Prop where
  go : ∃ h tk, b = true ∧ s' = { s with heap := h, toks := tk } ∧ Fr h₀ L h m ∧ News h₀ L h led
theorem TruePost.intro {h₀ h : Heap} {L : Addr} {s : Shared} {m : PySem.Str → Option Value} {led : List (Addr × Obj)} {tk : Nat} (F : Fr h₀ L h m) (N : News h₀ L h led) : TruePost h₀ L s m led true { s with heap := h, toks := tk } := ⟨h, tk, rfl, rfl, F, N⟩
theorem truth_join {M : Model} {A : Around} {E : Value → Shared → Prop} {s : Shared} {h₀ : Heap} {L : Addr} {m : PySem.Str → Option Value} {led : List (Addr × Obj)} {c : Sem Bool} {Q : Bool → Shared → Prop}
    (_F : Fr h₀ L s.heap m) (_N : News h₀ L s.heap led) (h1 : wpAny M A c (TruePost h₀ L s m led) E s) (h2 : ∀ h tk, Fr h₀ L h m → News h₀ L h led → Q true { s with heap := h, toks := tk }) : wpAny M A c Q E s := by
  refine wpAny_mono h1 (fun b s' h => ?_) fun _ _ e => e
  obtain ⟨g, tk, rfl, rfl, F, N⟩ := h.go
  exact h2 g tk F N
end
end Mine
theorem PySem.Challenge.cw_oj0015_01_holds : PySem.Challenge.rw_oj0015_01.Holds := by
  refine Mine.hd ?_
  w_on
  w_strict (k_go0; (all_goals try k_fold); k_steps)
  rename Fr _ _ _ _ => F1
  rename News _ _ _ _ => N1
  have hMk : KstMark := kstMark
  exact by
    rename Shared => s1
    rename World => w
    rename Fr _ _ _ _ => F1
    rename News _ _ _ _ => N1
    rename (Obj.data _ = Data.cell (some (Value.ref _))) => hoc
    rename (Obj.data _ = Data.cell (bindC _ _ _ (PySem.Str.ofString "beat"))) => hbc
    rename IntsAre _ (List.map _ _) => hiC
    have hwI : ∀ l : List Int, (List.map (fun k' => if k' < 0 then -k' else k') (List.take 63 l)).length ≤ 63 := fun l => by rw [List.length_map, List.length_take]; omega
    obtain ⟨px, pd, pl, dk, cL, ol, tS, tk0, z1, z2, zo1, zo2, oc, bc, cs, ns, u, F2, N2, hoc, hbc, hiC, hlC, hnd⟩ : ∃ (px pd pl dk cL ol tS tk0 z1 z2 : Nat) (zo1 zo2 oc bc : Obj) (cs : List Value) (ns : List Int) (u : PySem.Str → Option Value),
        Fr _ s1.heap.objs.size _ (Mine.lawMap dk px u) ∧ News _ s1.heap.objs.size _ [(z1, zo1), (ol, PySem.W.listOf #[] 0), (pl, PySem.W.listOf #[] 0), (px, instObj 129 pd), (pd, Mine.plDict w tS pl), (dk, PySem.W.listOf #[.ref cL, .int 0 tk0] 0), (cL, LCg.lst cs), (z2, zo2), (s1.heap.objs.size + 1 + 1, bc), (s1.heap.objs.size + 1, oc)] ∧
        oc.data = .cell (some (.ref ol)) ∧ (∃ v, bc.data = .cell v) ∧ IntsAre cs ns ∧ ns.length ≤ 63 ∧ (Mine.wad (s1.heap.objs.size + 1) (s1.heap.objs.size + 1 + 1) dk cL px pd pl ol [] []).Nodup := by
      refine ⟨_, _, _, _, _, _, _, _, _, _, _, _, _, _, _, _, _, F1, N1, hoc, ⟨_, hbc⟩, hiC, hwI _, ?_⟩
      simp only [Mine.wad, Mine.adrs, Mine.oadr, List.flatMap_nil, List.append_nil, List.nodup_cons, List.mem_cons, List.not_mem_nil, or_false, not_or, not_false_eq_true, List.nodup_nil, and_true]
      omega
    clear F1 N1
    (repeat (rename (@LT.lt Nat _ _ _ ∧ _) => hX; clear hX))
    (try (rename (Ne _ _ ∧ _) => hX; clear hX))
    have hMk : KstMark := kstMark
    refine Mine.For_upB F2 20 (Mine.LawJ w (s1.heap.objs.size + 1) (s1.heap.objs.size + 1 + 1) dk cL px pd tS cs) (by rfl) ?_ ?_ ?_ (by intro _; rfl)
    · obtain ⟨T, hT⟩ : ∃ T, T = [(s1.heap.objs.size + 1, oc), (s1.heap.objs.size + 1 + 1, bc), (px, instObj 129 pd), (pd, Mine.plDict w tS pl), (pl, PySem.W.listOf #[] 0), (ol, PySem.W.listOf #[] 0)] := ⟨_, rfl⟩
      have N3 : News _ s1.heap.objs.size _ ((dk, PySem.W.listOf #[.ref cL, .int 0 tk0] 0) :: (cL, LCg.lst cs) :: T) := fun p hp => N2 p (by
        rw [hT] at hp
        simp only [List.mem_cons, List.not_mem_nil, or_false] at hp ⊢
        rcases hp with h | h | h | h | h | h | h | h <;> simp [h])
      clear N2
      have hTo : OwnOff T [dk] := by
        have hd1 := hnd
        simp only [Mine.wad, Mine.adrs, Mine.oadr, List.flatMap_nil, List.append_nil, List.nodup_cons, List.mem_cons, List.not_mem_nil, or_false, not_or, not_false_eq_true, List.nodup_nil, and_true] at hd1
        obtain ⟨⟨_, a1, _⟩, ⟨a2, _⟩, ⟨_, a3, a4, a5, a6⟩, _⟩ := hd1
        intro p hp b hb
        rw [List.mem_singleton.mp hb]
        rw [hT] at hp
        simp only [List.mem_cons, List.not_mem_nil, or_false] at hp
        rcases hp with rfl | rfl | rfl | rfl | rfl | rfl
        · exact a1
        · exact a2
        · exact Ne.symm a3
        · exact Ne.symm a4
        · exact Ne.symm a5
        · exact Ne.symm a6
      have hne1 : @Ne Nat dk cL := by
        have hd1 := hnd
        simp only [Mine.wad, Mine.adrs, Mine.oadr, List.flatMap_nil, List.append_nil, List.nodup_cons, List.mem_cons, List.not_mem_nil, or_false, not_or, not_false_eq_true, List.nodup_nil, and_true] at hd1
        exact hd1.2.2.1.1
      k_steps
      rename IsRange _ _ _ _ _ _ _ _ => hIR
      rename Fr _ s1.heap.objs.size _ _ => F5
      rename News _ s1.heap.objs.size _ _ => N5
      rename Int => v
      have hcast : (((6 + v).toNat : Nat) : Int) = 6 + v := Int.toNat_of_nonneg (by omega)
      obtain ⟨tk1, n01, N6⟩ : ∃ tk1 n01, News _ s1.heap.objs.size _ ((dk, PySem.W.listOf #[.ref cL, .int (0 + 1) tk1] n01) :: (cL, LCg.lst cs) :: T) := ⟨_, _, N5⟩
      refine ⟨(6 + v).toNat, by omega, Mine.ForSrc.intro hIR (small_one (by omega) (by omega) (by omega) (by omega)) (by rw [hcast]; simp [Builtin.Range.rangeSize]; omega) F5 N6
        (nx := (s1.heap.objs.size + 1, oc) :: (s1.heap.objs.size + 1 + 1, bc) :: (dk, PySem.W.listOf #[.ref cL, .int (0 + 1) tk1] n01) :: (cL, LCg.lst cs) :: (Mine.plLed w px pd tS pl 0 [] ++ Mine.ownLed ol 0 [])) ?_
        ⟨u, oc, bc, 0 + 1, tk1, n01, 0, 0, ol, pl, [], [], rfl, rfl, hoc, hbc, by omega, by omega, ⟨hnd, (fun _ h => nomatch h), (fun _ h => nomatch h), (fun _ h => nomatch h), by simp, by simp⟩, Mine.Rel.nil⟩⟩
      intro q hq
      rw [hT]
      simp only [Mine.plLed, Mine.ownLed, Mine.stk, Mine.ostk, List.map_nil, List.flatMap_nil, List.mem_cons, List.mem_append, List.not_mem_nil, or_false] at hq ⊢
      rcases hq with h | h | h | h | (h | h | h) | h <;> simp [h]
    · intro i t m₁ nx s2 own hi20 hJ hoff F3 N3
      clear F2 N2
      exact by
        obtain ⟨u, oc, bc, k, tk, n0, n, n', ol, pl, es, os, rfl, rfl, hoc, ⟨bv, hbc⟩, hk0, hk1, hW0, hR⟩ := hJ
        have hW : Mine.Wld (s1.heap.objs.size + 1) (s1.heap.objs.size + 1 + 1) dk cL px pd pl ol es os own := by
          refine ⟨hW0.nd, fun q hq b hb => hoff q hq b ?_, hW0.ge, hW0.go, hW0.le, hW0.lo⟩
          simp only [Mine.wad, Mine.plLed, Mine.ownLed, List.map_cons, List.map_append, Mine.adrs_fst, Mine.oadr_fst, List.mem_cons, List.mem_append, List.not_mem_nil, or_false] at hb ⊢
          grind
        clear hW0 hoff
        obtain ⟨hb1, hb2, hb3, hb4, hb5, hb6⟩ := hW.four
        obtain ⟨T, hT⟩ : ∃ T, T = Mine.plLed w px pd tS pl n es ++ (Mine.ownLed ol n' os ++ own) := ⟨_, rfl⟩
        have hTo : OwnOff T [s1.heap.objs.size + 1, s1.heap.objs.size + 1 + 1, dk, cL] := by rw [hT]; exact hW.off4
        have N4 : News _ s1.heap.objs.size s2.heap ((s1.heap.objs.size + 1, oc) :: (s1.heap.objs.size + 1 + 1, bc) :: (dk, PySem.W.listOf #[.ref cL, .int k tk] n0) :: (cL, LCg.lst cs) :: T) := fun q hq => N3 q (by
          rw [hT] at hq
          simp only [List.mem_cons, List.mem_append] at hq ⊢
          rcases hq with h | h | h | h | h | h | h <;> simp [h])
        have F4 : Fr _ s1.heap.objs.size s2.heap (Mine.lawMap dk px u) := F3
        clear N3 F3
        have hk2 : k ≤ 61 := by omega
        iterate 24 (first | walk1 | (dsimp only; walk1))
        · exact by
            rename Obj => bc2
            rename (Obj.data bc2 = _) => hbc2
            rename Int => wv
            rename Fr _ s1.heap.objs.size _ _ => F5
            rename News _ s1.heap.objs.size _ _ => N5
            obtain ⟨tk2, n2, N6⟩ : ∃ tk2 n2, News _ s1.heap.objs.size _ ((s1.heap.objs.size + 1, oc) :: (s1.heap.objs.size + 1 + 1, bc2) :: (dk, PySem.W.listOf #[.ref cL, .int (k + 1) tk2] n2) :: (cL, LCg.lst cs) :: T) := ⟨_, _, N5⟩
            clear N5
            have hRl := hR.length
            iterate 36 (first | walk1 | (dsimp only; walk1))
            rename Fr _ s1.heap.objs.size _ _ => F6
            rename News _ s1.heap.objs.size _ _ => N7
            rename IntsAre _ (List.map _ (rangeKs _ _)) => hI8
            rename List Value => evs
            obtain ⟨nse, hn4, hI8⟩ : ∃ nse, nse.length ≤ 4 ∧ IntsAre evs nse := ⟨_, (by rw [List.length_map, rangeKs_length]; omega), hI8⟩
            have he4 : evs.length ≤ 4 := by rw [hI8.length]; exact hn4
            refine kde_tupleOf (zs := evs) F6 N7 (News.isList N7 (.head _)) (by simp; omega) (by simp) ?_
            intro ev h6 F7 N8 lev
            subst hT
            obtain ⟨tk3, n3, hevl, N9⟩ : ∃ tk3 n3, (∀ p ∈ Mine.Lw w (s1.heap.objs.size + 1) (s1.heap.objs.size + 1 + 1) dk cL px pd tS pl n ol n' oc bc2 (PySem.W.listOf #[.ref cL, .int (k + 1 + 1) tk3] n3) (LCg.lst cs) es os own, @LT.lt Nat _ p.1 ev) ∧ News _ s1.heap.objs.size h6 ((ev, Mine.tupOf evs) :: Mine.Lw w (s1.heap.objs.size + 1) (s1.heap.objs.size + 1 + 1) dk cL px pd tS pl n ol n' oc bc2 (PySem.W.listOf #[.ref cL, .int (k + 1 + 1) tk3] n3) (LCg.lst cs) es os own) :=
              ⟨_, _, fun p hp => lev p (.tail _ hp), fun p hp => N8 p (by rcases List.mem_cons.mp hp with h | h; (rw [h]; exact .head _); exact .tail _ (.tail _ h))⟩
            clear N8 N7 F6 lev hTo
            obtain ⟨⟨c1, c2, c3, c4⟩, hTo5⟩ := hW.dkFacts (w := w)
            obtain ⟨T5, hT5⟩ : ∃ T5, T5 = es.flatMap (Mine.entL w) ++ (os.flatMap Mine.owL ++ own) := ⟨_, rfl⟩
            rw [← hT5] at hTo5
            have hevdk : @Ne Nat ev dk := Nat.ne_of_gt (hevl (dk, PySem.W.listOf #[.ref cL, .int (k + 1 + 1) tk3] n3) (by simp [Mine.Lw]))
            have N10 : News _ s1.heap.objs.size h6 ((ev, Mine.tupOf evs) :: (s1.heap.objs.size + 1, oc) :: (s1.heap.objs.size + 1 + 1, bc2) :: (dk, PySem.W.listOf #[.ref cL, .int (k + 1 + 1) tk3] n3) :: (cL, LCg.lst cs) :: (px, instObj 129 pd) :: (pd, Mine.plDict w tS pl) :: (pl, PySem.W.listOf (Mine.stk es).toArray n) :: (ol, PySem.W.listOf (Mine.ostk os).toArray n') :: T5) := kst_newsOf N9 (fun p hp => by
              rw [hT5] at hp
              rcases List.mem_cons.mp hp with h | h
              · rw [h]; exact .head _
              · exact .tail _ ((Mine.lwP_iff p).mp h))
            clear N9
            iterate 28 (first | walk1 | (dsimp only; walk1))
            rename Fr _ s1.heap.objs.size _ _ => F8
            rename News _ s1.heap.objs.size _ _ => N11
            refine Mine.item_menu N11 (.head _) (by assumption) (by assumption) ?_
            intro tv tu ht0 ht1
            obtain ⟨tk4, n4, N12⟩ : ∃ tk4 n4, News _ s1.heap.objs.size _ ((ev, Mine.tupOf evs) :: (s1.heap.objs.size + 1, oc) :: (s1.heap.objs.size + 1 + 1, bc2) :: (dk, PySem.W.listOf #[.ref cL, .int (k + 1 + 1 + 1) tk4] n4) :: (cL, LCg.lst cs) :: (px, instObj 129 pd) :: (pd, Mine.plDict w tS pl) :: (pl, PySem.W.listOf (Mine.stk es).toArray n) :: (ol, PySem.W.listOf (Mine.ostk os).toArray n') :: T5) := ⟨_, _, fun p hp => N11 p (.tail _ hp)⟩
            clear N11
            have hevl := Mine.lw_ad (P := fun a => @LT.lt Nat _ a ev) (q1 := oc) (q2 := bc2) (q3 := PySem.W.listOf #[.ref cL, .int (k + 1 + 1 + 1) tk4] n4) (q4 := LCg.lst cs) (m := n) (m' := n') hevl
            iterate 4 (first | walk1 | (dsimp only; walk1))
            rename Fr _ s1.heap.objs.size _ _ => F9
            rename News _ s1.heap.objs.size _ _ => N13
            refine Mine.ifexp_join (nse := nse) F9 N13 ?_ ?_
            · by_cases hz : evs = []
              · have hemp : evs.isEmpty = true := by rw [hz]; rfl
                iterate 6 (first | walk1 | (dsimp only; walk1))
                rename News _ s1.heap.objs.size _ _ => N14
                refine Mine.eq_tupnil N14 (.tail _ (.head _)) (Mine.isTup_of (vs := []) N14 (.head _)) (by have hcL9 := cLine_is; (try simp only [units_in1, units_deeper, Around.mark_units, units_caller]); (try dsimp only [ktrTop]); omega) hemp ?_
                k_steps
                rename Fr _ s1.heap.objs.size _ _ => F10
                rename News _ s1.heap.objs.size _ _ => N15
                exact Mine.IfPost.intro (by omega) (by omega) (fun _ => rfl) F10 (fun p hp => N15 p (.tail _ hp))
              · have hemp : evs.isEmpty = false := by cases evs with | nil => exact absurd rfl hz | cons a r => rfl
                iterate 6 (first | walk1 | (dsimp only; walk1))
                rename News _ s1.heap.objs.size _ _ => N14
                refine Mine.eq_tupnil N14 (.tail _ (.head _)) (Mine.isTup_of (vs := []) N14 (.head _)) (by have hcL9 := cLine_is; (try simp only [units_in1, units_deeper, Around.mark_units, units_caller]); (try dsimp only [ktrTop]); omega) hemp ?_
                k_steps
                rename Fr _ s1.heap.objs.size _ _ => F10
                rename News _ s1.heap.objs.size _ _ => N15
                exact Mine.IfPost.intro ht0 ht1 (fun h => absurd (List.length_eq_zero_iff.mp (by rw [hI8.length, h]; rfl)) hz) F10 (fun p hp => N15 p (.tail _ hp))
            · clear F9 N13 ht0 ht1
              intro tv2 u2 h9 tk9 ht0 ht1 hnil F9 N13
              have hsl : (Mine.stk es).length = es.length := by simp [Mine.stk]
              have hle := hW.le
              by_cases hroom : es.length < 10
              · have hdec : decide (((Mine.stk es).length : Int) < 10) = true := by simp; omega
                k_steps
                refine ⟨?_⟩
                rename Fr _ s1.heap.objs.size _ _ => F10
                rename News _ s1.heap.objs.size _ _ => N14
                rw [hdec] at F10
                refine Mine.Tell.use (Mine.begin_main (tS := tS) (n := n) (n' := n') (o1 := oc) (o2 := bc2) (o3 := PySem.W.listOf #[.ref cL, .int (k + 1 + 1 + 1) tk4] n4) (o4 := LCg.lst cs) (nse := nse) hW hroom hI8 he4 hevl (.head _) (fun p hp => by
                  rw [hT5]
                  have h9 := (Mine.lwP_iff p).mpr hp; first | exact h9 | exact .tail _ h9 | exact .tail _ (.tail _ h9) | exact .tail _ (.tail _ (.tail _ h9)))) (by k_asm) F10 (by k_asm) N14 (by k_asm) (by rfl) (by simp only [depth_deeper, depth_caller]; decide) (by simp only [units_deeper, units_caller]; decide) ?_
                rintro _ h10 tk10 _ ⟨n5, e, rfl, rfl, hW2, hpe, hee, hes⟩ F11 N15
                clear N14
                obtain ⟨d1, d2, d3, d4, d5⟩ : (@Ne Nat ev ol) ∧ (@Ne Nat (s1.heap.objs.size + 1) ol) ∧ (@Ne Nat (s1.heap.objs.size + 1 + 1) ol) ∧ (@Ne Nat dk ol) ∧ (@Ne Nat cL ol) := by
                  obtain ⟨_, _, _, _, w5, _⟩ := hW2.split
                  refine ⟨?_, w5 _ (by simp) ol (by simp), w5 _ (by simp) ol (by simp), w5 _ (by simp) ol (by simp), w5 _ (by simp) ol (by simp)⟩
                  exact Nat.ne_of_gt (hevl (ol, PySem.W.listOf (Mine.ostk os).toArray n') (by simp [Mine.Lw, Mine.ownLed]))
                obtain ⟨T6, hT6⟩ : ∃ T6, T6 = Mine.plLed w px pd tS pl n5 (es ++ [e]) ++ (os.flatMap Mine.owL ++ own) := ⟨_, rfl⟩
                have hTo6 : OwnOff T6 [ol] := by
                  obtain ⟨_, _, w3, _, _, w6⟩ := hW2.split
                  rw [hT6]
                  intro p hp b hb
                  rw [List.mem_singleton.mp hb]
                  rcases List.mem_append.mp hp with h | h
                  · exact w6 p.1 (Mine.mem_pl h) ol (by simp)
                  · rcases List.mem_append.mp h with h | h
                    · exact fun e' => (List.nodup_cons.mp w3).1 (e' ▸ Mine.mem_oadr h)
                    · exact hW2.zoff.2.2 p h ol (by simp)
                have N16 : News _ s1.heap.objs.size h10 ((ev, Mine.tupOf evs) :: (s1.heap.objs.size + 1, oc) :: (s1.heap.objs.size + 1 + 1, bc2) :: (dk, PySem.W.listOf #[.ref cL, .int (k + 1 + 1 + 1) tk4] n4) :: (cL, LCg.lst cs) :: (ol, PySem.W.listOf (Mine.ostk os).toArray n') :: T6) := kst_newsOf N15 (fun p hp => by
                  have hmem : (ev, Mine.tupOf evs) ∈ Mine.entL w e := by rw [← hee, ← hes]; simp [Mine.entL]
                  have hmem2 : (ev, Mine.tupOf evs) ∈ Mine.plLed w px pd tS pl n5 (es ++ [e]) := by simp only [Mine.plLed, List.flatMap_append, List.flatMap_cons, List.flatMap_nil, List.append_nil, List.mem_cons, List.mem_append]; exact .inr (.inr (.inr (.inr hmem)))
                  rw [hT6] at hp
                  simp only [Mine.Lw, Mine.ownLed, List.mem_cons, List.mem_append] at hp ⊢
                  rcases hp with h | h | h | h | h | h | h | h | h
                  · exact .inr (.inr (.inr (.inr (.inl (h ▸ hmem2)))))
                  · simp [h]
                  · simp [h]
                  · simp [h]
                  · simp [h]
                  · simp [h]
                  · simp [h]
                  · simp [h]
                  · simp [h])
                clear N15 F10
                k_steps
                refine ⟨?_⟩
                rename Fr _ s1.heap.objs.size _ _ => F12
                rename News _ s1.heap.objs.size _ _ => N17
                refine Mine.Tell.use (Mine.laid_main hI8 he4 ht0 ht1 (.head _)) (by k_asm) F12 (by k_asm) N17 (by k_asm) (by rfl) (by simp only [depth_deeper, depth_caller]; decide) (by simp only [units_deeper, units_caller]; decide) ?_
                rintro _ h11 tk11 _ ⟨l, n6, ps, rfl, rfl, hps, hnd2, hfr⟩ F13 N18
                clear hb1 hb2 hb3 hb4 hb5 hb6 c1 c2 c3 c4 hevdk hTo5 N17
                obtain ⟨T7, hT7⟩ : ∃ T7, T7 = ps.map Mine.Pr.o ++ T6 := ⟨_, rfl⟩
                have hlol : @Ne Nat l ol := Nat.ne_of_gt (hfr l (.head _) (ol, PySem.W.listOf (Mine.ostk os).toArray n') (by simp))
                have hTo7 : OwnOff T7 [ol] := by
                  rw [hT7]
                  intro p hp b hb
                  rw [List.mem_singleton.mp hb]
                  rcases List.mem_append.mp hp with h | h
                  · obtain ⟨q, hq, rfl⟩ := List.mem_map.mp h
                    exact Nat.ne_of_gt (hfr q.a (.tail _ (List.mem_map.mpr ⟨q, hq, rfl⟩)) (ol, PySem.W.listOf (Mine.ostk os).toArray n') (by simp))
                  · exact hTo6 p h ol (by simp)
                have N19 : News _ s1.heap.objs.size h11 ((l, PySem.W.listOf (Mine.prs ps).toArray n6) :: (ev, Mine.tupOf evs) :: (s1.heap.objs.size + 1, oc) :: (s1.heap.objs.size + 1 + 1, bc2) :: (dk, PySem.W.listOf #[.ref cL, .int (k + 1 + 1 + 1) tk4] n4) :: (cL, LCg.lst cs) :: (ol, PySem.W.listOf (Mine.ostk os).toArray n') :: T7) := kst_newsOf N18 (fun p hp => by
                  rw [hT7] at hp
                  simp only [List.mem_cons, List.mem_append] at hp ⊢
                  rcases hp with h | h | h | h | h | h | h | h | h <;> simp [h])
                clear N18 F12
                have hosl : os.length < 10 := by
                  have h1 := hRl
                  simp only [Mine.pes, Mine.oes, List.length_reverse, List.length_map] at h1
                  omega
                have hol9 : (Mine.ostk os).length < 10 := by simpa [Mine.ostk] using hosl
                k_steps
                rename Fr _ s1.heap.objs.size _ _ => F14
                rename News _ s1.heap.objs.size _ _ => N20
                rename (@LT.lt Nat _ _ _ ∧ _) => l1
                simp only [List.push_toArray] at N20
                obtain ⟨x2, kt, n7, n8, hx2, N21⟩ : ∃ x2 kt n7 n8, AllLt x2 ((l, PySem.W.listOf (Mine.prs ps).toArray n6) :: (ev, Mine.tupOf evs) :: (s1.heap.objs.size + 1, oc) :: (s1.heap.objs.size + 1 + 1, bc2) :: (dk, PySem.W.listOf #[.ref cL, .int (k + 1 + 1 + 1) tk4] n4) :: (cL, LCg.lst cs) :: (ol, PySem.W.listOf (Mine.ostk os).toArray n') :: T7) ∧ News _ s1.heap.objs.size _ ((x2, PySem.W.listOf #[.ref l, .int 0 kt] n7) :: (l, PySem.W.listOf (Mine.prs ps).toArray n6) :: (ev, Mine.tupOf evs) :: (s1.heap.objs.size + 1, oc) :: (s1.heap.objs.size + 1 + 1, bc2) :: (dk, PySem.W.listOf #[.ref cL, .int (k + 1 + 1 + 1) tk4] n4) :: (cL, LCg.lst cs) :: (ol, PySem.W.listOf (Mine.ostk os ++ [Value.ref x2]).toArray n8) :: T7) := ⟨_, _, _, _, l1, N20⟩
                have hx := kst_ltOf hx2
                have hsub : ∀ p ∈ Mine.Lw w (s1.heap.objs.size + 1) (s1.heap.objs.size + 1 + 1) dk cL px pd tS pl n5 ol n' oc bc2 (PySem.W.listOf #[.ref cL, .int (k + 1 + 1 + 1) tk4] n4) (LCg.lst cs) (es ++ [e]) os own, p ∈ (ev, Mine.tupOf evs) :: (s1.heap.objs.size + 1, oc) :: (s1.heap.objs.size + 1 + 1, bc2) :: (dk, PySem.W.listOf #[.ref cL, .int (k + 1 + 1 + 1) tk4] n4) :: (cL, LCg.lst cs) :: (ol, PySem.W.listOf (Mine.ostk os).toArray n') :: T6 := fun p hp => by
                  rw [hT6]
                  simp only [Mine.Lw, Mine.ownLed, List.mem_cons, List.mem_append] at hp ⊢
                  rcases hp with h | h | h | h | h | (h | h) | h <;> simp [h]
                have hnd3 : (x2 :: l :: ps.map Mine.Pr.a : List Nat).Nodup := by
                  refine List.nodup_cons.mpr ⟨fun h => ?_, hnd2⟩
                  rcases List.mem_cons.mp h with h | h
                  · exact Nat.lt_irrefl x2 (by simpa [← h] using hx (l, PySem.W.listOf (Mine.prs ps).toArray n6) (.head _))
                  · obtain ⟨q, hq, hqa⟩ := List.mem_map.mp h
                    have := hx (Mine.Pr.o q) (by
                      rw [hT7]
                      simp only [List.mem_cons, List.mem_append]
                      exact .inr (.inr (.inr (.inr (.inr (.inr (.inr (.inl (List.mem_map.mpr ⟨q, hq, rfl⟩)))))))))
                    exact Nat.lt_irrefl x2 (by simpa [Mine.Pr.o, hqa] using this)
                have hW3 := hW2.pushO (o := ⟨x2, l, n7, n6, 0, kt, ps⟩) (w := w) (tS := tS) (n := n5) (n' := n') (o1 := oc) (o2 := bc2) (o3 := PySem.W.listOf #[.ref cL, .int (k + 1 + 1 + 1) tk4] n4) (o4 := LCg.lst cs) (Mine.laid_len hps ht1 hn4) hosl hnd3 (fun b hb p hp => by
                  rcases List.mem_cons.mp hb with h | h
                  · rw [h]
                    refine Nat.ne_of_lt (hx p ?_)
                    have := hsub p hp
                    rw [hT7]
                    simp only [List.mem_cons, List.mem_append] at this ⊢
                    rcases this with h | h | h | h | h | h | h <;> simp [h]
                  · exact Nat.ne_of_lt (hfr b h p (hsub p hp)))
                have hR3 : Mine.Rel (i + 1) (Mine.pes (es ++ [e])) (Mine.oes (os ++ [⟨x2, l, n7, n6, 0, kt, ps⟩])) := by
                  rw [Mine.pes_app, Mine.oes_app, hpe]
                  have h1 : (⟨x2, l, n7, n6, 0, kt, ps⟩ : Mine.Ow).oe = (Mine.laidP nse (if tv2 = -1 then 40 else tv2.toNat), 0) := by
                    show (ps.map Mine.Pr.p, (0 : Int)) = _
                    rw [hps]
                  rw [h1]
                  exact Mine.push_rel hR.up ht0 ht1 hnil
                refine Mine.law_end (k := k + 1 + 1 + 1) (tk := tk4) (n0 := n4) (n := n5) (n' := n8) (oc := oc) (bc := bc2) F14 N21 (by rfl) (by rfl) (fun p hp => ?_) hoc hbc2 (by omega) (by omega) hW3 hR3
                rw [hT7, hT6]
                simp only [Mine.Lw, Mine.ownLed, Mine.ostk_app, Mine.owL, List.flatMap_append, List.flatMap_cons, List.flatMap_nil, List.append_nil, List.mem_cons, List.mem_append] at hp ⊢
                rcases hp with h | h | h | h | h | (h | h | h | h | h) | h <;> simp [h]
              · have hfull : es.length = 10 := by omega
                have hdec : decide (((Mine.stk es).length : Int) < 10) = false := by simp; omega
                k_steps
                refine ⟨?_⟩
                rename Fr _ s1.heap.objs.size _ _ => F10
                rename News _ s1.heap.objs.size _ _ => N14
                rw [hdec] at F10
                refine Mine.Tell.use (Mine.begin_full_main (tS := tS) (n := n) (n' := n') (o1 := oc) (o2 := bc2) (o3 := PySem.W.listOf #[.ref cL, .int (k + 1 + 1 + 1) tk4] n4) (o4 := LCg.lst cs) hW hfull (fun p hp => by
                  rw [hT5]
                  have h9 := (Mine.lwP_iff p).mpr hp; first | exact h9 | exact .tail _ h9 | exact .tail _ (.tail _ h9) | exact .tail _ (.tail _ (.tail _ h9)))) (by k_asm) F10 (by k_asm) N14 (by k_asm) (by rfl) (by simp only [depth_deeper, depth_caller]; decide) (by simp only [units_deeper, units_caller]; decide) ?_
                rintro _ h10 tk10 _ ⟨⟨_, rfl⟩, rfl⟩ F11 N15
                clear F10 N14
                k_steps
                refine Mine.law_end (k := k + 1 + 1 + 1) (tk := tk4) (n0 := n4) (n := n) (n' := n') (oc := oc) (bc := bc2) (es := es) (os := os) F11 N15 (by rfl) (by rfl) (fun p hp => ?_) hoc hbc2 (by omega) (by omega) hW hR.up
                rw [hT5]
                have h9 := (Mine.lwP_iff p).mpr hp; first | exact h9 | exact .tail _ h9 | exact .tail _ (.tail _ h9) | exact .tail _ (.tail _ (.tail _ h9))
        · rename Obj => bc2
          rename (Obj.data bc2 = _) => hbc2
          rename Int => wv
          rename Fr _ s1.heap.objs.size _ _ => F5
          rename News _ s1.heap.objs.size _ _ => N5
          obtain ⟨tk2, n2, N6⟩ : ∃ tk2 n2, News _ s1.heap.objs.size _ ((s1.heap.objs.size + 1, oc) :: (s1.heap.objs.size + 1 + 1, bc2) :: (dk, PySem.W.listOf #[.ref cL, .int (k + 1) tk2] n2) :: (cL, LCg.lst cs) :: T) := ⟨_, _, N5⟩
          clear N5
          have hol : (ol, PySem.W.listOf (Mine.ostk os).toArray n') ∈ T := by rw [hT]; simp [Mine.ownLed]
          have hRl := hR.length
          by_cases h5 : wv < 5 ∨ os = []
          · exact by
              walk1
              walk1
              refine Mine.truth_join F5 N6 ?_ ?_
              · by_cases hlt : wv < 5
                · k_steps
                  rename Fr _ s1.heap.objs.size _ _ => F6
                  rename News _ s1.heap.objs.size _ _ => N7
                  exact Mine.TruePost.intro F6 N7
                · have hos : os = [] := h5.resolve_left hlt
                  have hoe : (Mine.ostk os).isEmpty = true := by rw [hos]; rfl
                  obtain ⟨T1, hT1⟩ : ∃ T1, T1 = es.flatMap (Mine.entL w) ++ (os.flatMap Mine.owL ++ own) := ⟨_, rfl⟩
                  have N7 : News _ s1.heap.objs.size _ ((s1.heap.objs.size + 1, oc) :: (s1.heap.objs.size + 1 + 1, bc2) :: (dk, PySem.W.listOf #[.ref cL, .int (k + 1) tk2] n2) :: (cL, LCg.lst cs) :: (px, instObj 129 pd) :: (pd, Mine.plDict w tS pl) :: (pl, PySem.W.listOf (Mine.stk es).toArray n) :: (ol, PySem.W.listOf (Mine.ostk os).toArray n') :: T1) := kst_newsOf N6 (fun p hp => by
                    rw [hT1] at hp
                    rw [hT]
                    exact (Mine.lwP_iff p).mp hp)
                  clear N6 hTo hol
                  k_steps
                  rename Fr _ s1.heap.objs.size _ _ => F6
                  rename News _ s1.heap.objs.size _ _ => N8
                  exact Mine.TruePost.intro F6 (fun p hp => N8 p (by
                    rw [hT] at hp
                    rw [hT1]
                    exact .tail _ ((Mine.lwP_iff p).mpr hp)))
              clear F5 N6
              intro h6 tk6 F5 N6
              obtain ⟨hev, hR2, hxn, hxs⟩ := Mine.next_rel (by omega) hR
              k_steps
              refine ⟨?_⟩
              refine Mine.Tell.use (Mine.next_main (tS := tS) (n := n) (n' := n') (o1 := oc) (o2 := bc2) (o3 := PySem.W.listOf #[.ref cL, .int (k + 1) tk2] n2) (o4 := LCg.lst cs) hW (fun p hp => by rw [hT]; exact hp)) (by k_asm) F5 (by k_asm) N6 (by k_asm) (by rfl) (by simp only [depth_deeper, depth_caller]; decide) (by simp only [units_deeper, units_caller]; decide) ?_
              rintro _ h7 tk7 _ ⟨m2, es2, rfl, hW2, hp2, u2, rfl⟩ F7 N7
              rw [hev]
              obtain ⟨T2, hT2⟩ : ∃ T2, T2 = Mine.plLed w px pd tS pl m2 es2 ++ (Mine.ownLed ol n' os ++ own) := ⟨_, rfl⟩
              have N8 : News _ s1.heap.objs.size h7 ((s1.heap.objs.size + 1, oc) :: (s1.heap.objs.size + 1 + 1, bc2) :: (dk, PySem.W.listOf #[.ref cL, .int (k + 1) tk2] n2) :: (cL, LCg.lst cs) :: T2) := kst_newsOf N7 (fun p hp => by rw [hT2] at hp; exact hp)
              clear N6 N7 F5 hT hTo hol T
              cases hE : (Mine.onextR (Mine.oes os)).1 with
              | none =>
                dsimp only [Mine.optV]
                k_steps
                refine ⟨?_⟩
                refine Mine.Tell.use (Mine.own_main (tS := tS) (n := m2) (n' := n') (o1 := oc) (o2 := bc2) (o3 := PySem.W.listOf #[.ref cL, .int (k + 1) tk2] n2) (o4 := LCg.lst cs) hW2 (fun p hp => by rw [hT2]; exact hp)) (by k_asm) F7 (by k_asm) N8 (by k_asm) (by rfl) (by simp only [depth_deeper, depth_caller]; decide) (by simp only [units_deeper, units_caller]; decide) ?_
                rintro _ h8 tk8 _ ⟨m3, os2, rfl, hW3, hp3, u3, rfl⟩ F8 N9
                rw [hE]
                dsimp only [Mine.optV]
                have hes2 : es2 = [] := by
                  have h1 : Mine.pes es2 = [] := by rw [hp2]; exact hxn (by rw [hev, hE])
                  simpa [Mine.pes] using h1
                subst hes2
                have hos2 : os2 = [] := by
                  have h1 := hR2.length
                  rw [← hp2, ← hp3] at h1
                  exact List.length_eq_zero_iff.mp (by simpa [Mine.pes, Mine.oes] using h1.symm)
                subst hos2
                have N10 : News _ s1.heap.objs.size h8 ((s1.heap.objs.size + 1, oc) :: (s1.heap.objs.size + 1 + 1, bc2) :: (dk, PySem.W.listOf #[.ref cL, .int (k + 1) tk2] n2) :: (cL, LCg.lst cs) :: (px, instObj 129 pd) :: (pd, Mine.plDict w tS pl) :: (pl, PySem.W.listOf (#[] : Array Value) m2) :: (ol, PySem.W.listOf (#[] : Array Value) m3) :: own) := fun p hp => N9 p (by
                  exact (Mine.lwP_iff p).mp hp)
                clear N8 N9 F7
                k_steps
                rename Fr _ s1.heap.objs.size _ _ => F9
                rename News _ s1.heap.objs.size _ _ => N11
                refine Mine.law_end (k := k + 1) (tk := tk2) (n0 := n2) (n := m2) (n' := m3) (oc := oc) (bc := bc2) (es := []) (os := []) F9 N11 (by rfl) (by rfl) (fun p hp => ?_) hoc hbc2 (by omega) (by omega) hW3 (by rw [hp2, hp3]; exact hR2)
                have h9 := (Mine.lwP_iff p).mpr hp; first | exact h9 | exact .tail _ h9 | exact .tail _ (.tail _ h9) | exact .tail _ (.tail _ (.tail _ h9))
              | some ev =>
                dsimp only [Mine.optV]
                k_steps
                refine ⟨?_⟩
                refine Mine.Tell.use (Mine.own_main (tS := tS) (n := m2) (n' := n') (o1 := oc) (o2 := bc2) (o3 := PySem.W.listOf #[.ref cL, .int (k + 1) tk2] n2) (o4 := LCg.lst cs) hW2 (fun p hp => by rw [hT2]; exact hp)) (by k_asm) F7 (by k_asm) N8 (by k_asm) (by rfl) (by simp only [depth_deeper, depth_caller]; decide) (by simp only [units_deeper, units_caller]; decide) ?_
                rintro _ h8 tk8 _ ⟨m3, os2, rfl, hW3, hp3, u3, rfl⟩ F8 N9
                rw [hE]
                dsimp only [Mine.optV]
                rw [← hp2, ← hp3] at hR2
                obtain ⟨p, r, hpr, hpd⟩ := hxs ev (by rw [hev, hE])
                rw [← hp2] at hpr
                obtain ⟨es3, e, os3, o, rfl, rfl, rfl, hr3⟩ := hR2.top hpr
                obtain ⟨⟨c1, c2, c3, c4⟩, hTo3⟩ := hW3.dkFacts (w := w)
                obtain ⟨T3, hT3⟩ : ∃ T3, T3 = (es3 ++ [e]).flatMap (Mine.entL w) ++ ((os3 ++ [o]).flatMap Mine.owL ++ own) := ⟨_, rfl⟩
                rw [← hT3] at hTo3
                have N10 : News _ s1.heap.objs.size h8 ((s1.heap.objs.size + 1, oc) :: (s1.heap.objs.size + 1 + 1, bc2) :: (dk, PySem.W.listOf #[.ref cL, .int (k + 1) tk2] n2) :: (cL, LCg.lst cs) :: (px, instObj 129 pd) :: (pd, Mine.plDict w tS pl) :: (pl, PySem.W.listOf (Mine.stk es3 ++ [Value.ref e.x]).toArray m2) :: (ol, PySem.W.listOf (Mine.ostk os3 ++ [Value.ref o.x]).toArray m3) :: T3) := kst_newsOf N9 (fun p hp => by
                  rw [hT3, ← Mine.stk_app, ← Mine.ostk_app] at hp
                  exact (Mine.lwP_iff p).mp hp)
                have hb1' : (!(Mine.stk es3 ++ [Value.ref e.x]).isEmpty) = true := by simp
                have hb2' : (!(Mine.ostk os3 ++ [Value.ref o.x]).isEmpty) = true := by simp
                have hll : (Mine.stk es3 ++ [Value.ref e.x]).length = (Mine.ostk os3 ++ [Value.ref o.x]).length := by
                  have h1 := hR2.length
                  simpa [Mine.pes, Mine.oes, Mine.stk, Mine.ostk] using h1
                have hle : (Mine.stk es3 ++ [Value.ref e.x]).length ≤ 10 := by have := hW3.le; simpa [Mine.stk] using this
                clear N8 N9 F7 hT2
                k_steps
                all_goals (first
                  | (rename (ev ≠ ev) => hx; exact absurd rfl hx)
                  | (rename (((Mine.stk es3 ++ [Value.ref e.x]).length : Int) ≠ _) => hx; exact absurd (congrArg Nat.cast hll) hx)
                  | skip)
                · refine ⟨?_⟩
                  rename Fr _ s1.heap.objs.size _ _ => F8
                  rename News _ s1.heap.objs.size _ _ => N11
                  obtain ⟨tk5, n5, N12⟩ : ∃ tk5 n5, News _ s1.heap.objs.size _ ((s1.heap.objs.size + 1, oc) :: (s1.heap.objs.size + 1 + 1, bc2) :: (dk, PySem.W.listOf #[.ref cL, .int (k + 1 + 1 + 1) tk5] n5) :: (cL, LCg.lst cs) :: (px, instObj 129 pd) :: (pd, Mine.plDict w tS pl) :: (pl, PySem.W.listOf (Mine.stk es3 ++ [Value.ref e.x]).toArray m2) :: (ol, PySem.W.listOf (Mine.ostk os3 ++ [Value.ref o.x]).toArray m3) :: T3) := ⟨_, _, fun p hp => N11 p (.tail _ (.tail _ hp))⟩
                  clear N11
                  refine Mine.Tell.use (Mine.skip_main (tS := tS) (n := m2) (n' := m3) (o1 := oc) (o2 := bc2) (o3 := PySem.W.listOf #[.ref cL, .int (k + 1 + 1 + 1) tk5] n5) (o4 := LCg.lst cs) hW3 (fun p hp => by
                    rw [hT3, ← Mine.stk_app, ← Mine.ostk_app]
                    have h9 := (Mine.lwP_iff p).mpr hp; first | exact h9 | exact .tail _ h9 | exact .tail _ (.tail _ h9) | exact .tail _ (.tail _ (.tail _ h9)))) (by k_asm) F8 (by k_asm) N12 (by k_asm) (by rfl) (by simp only [depth_deeper, depth_caller]; decide) (by simp only [units_deeper, units_caller]; decide) ?_
                  rintro _ h9 tk9 _ ⟨e2, rfl, rfl, hW4, he2⟩ F9 N13
                  obtain ⟨⟨d1, d2, d3, d4, d5, d6⟩, hTo4⟩ := hW4.oxFacts (w := w) (tS := tS) (n := m2)
                  obtain ⟨T4, hT4⟩ : ∃ T4, T4 = o.ps.map Mine.Pr.o ++ (os3.flatMap Mine.owL ++ (Mine.plLed w px pd tS pl m2 (es3 ++ [e2]) ++ own)) := ⟨_, rfl⟩
                  rw [← hT4] at hTo4
                  have N14 : News _ s1.heap.objs.size h9 ((s1.heap.objs.size + 1, oc) :: (s1.heap.objs.size + 1 + 1, bc2) :: (dk, PySem.W.listOf #[.ref cL, .int (k + 1 + 1 + 1) tk5] n5) :: (cL, LCg.lst cs) :: (ol, PySem.W.listOf (Mine.ostk os3 ++ [Value.ref o.x]).toArray m3) :: (o.x, PySem.W.listOf #[.ref o.l, .int o.lap o.kt] o.n1) :: (o.l, PySem.W.listOf (Mine.prs o.ps).toArray o.n2) :: T4) := kst_newsOf N13 (fun p hp => by
                    rw [hT4] at hp
                    exact (Mine.lwO_iff p).mp hp)
                  clear N12 N13 F8 hT3 hb1 hb2 hb3 hb4 hb5 hb6 c1 c2 c3 c4 hTo3
                  exact by
                    walk1
                    walk1
                    refine LCt.ListComp_T (F₀ := by k_asm) (by with_unfolding_all rfl) (by decide) (by rfl) (by decide) (by rfl) ?_
                    iterate 9 walk1
                    have hgo : o.ps.length ≤ 200 := hW4.go o (by simp)
                    obtain ⟨B, hB⟩ : ∃ B, B = Mine.LwO w (s1.heap.objs.size + 1) (s1.heap.objs.size + 1 + 1) dk cL px pd tS pl m2 ol m3 oc bc2 (PySem.W.listOf #[.ref cL, .int (k + 1 + 1 + 1) tk5] n5) (LCg.lst cs) (es3 ++ [e2]) os3 o own := ⟨_, rfl⟩
                    have hT5 : (s1.heap.objs.size + 1, oc) :: (s1.heap.objs.size + 1 + 1, bc2) :: (dk, PySem.W.listOf #[.ref cL, .int (k + 1 + 1 + 1) tk5] n5) :: (cL, LCg.lst cs) :: (ol, PySem.W.listOf (Mine.ostk os3 ++ [Value.ref o.x]).toArray m3) :: (o.x, PySem.W.listOf #[.ref o.l, .int o.lap o.kt] o.n1) :: (o.l, PySem.W.listOf (Mine.prs o.ps).toArray o.n2) :: T4 = B := by rw [hB, hT4]; rfl
                    rw [hT5] at N14
                    have hBo : (s1.heap.objs.size + 1, oc) ∈ B := by rw [← hT5]; exact .head _
                    have hBl : (ol, PySem.W.listOf (Mine.ostk os3 ++ [Value.ref o.x]).toArray m3) ∈ B := by rw [← hT5]; exact .tail _ (.tail _ (.tail _ (.tail _ (.head _))))
                    have hBx : (o.x, PySem.W.listOf #[.ref o.l, .int o.lap o.kt] o.n1) ∈ B := by rw [← hT5]; exact .tail _ (.tail _ (.tail _ (.tail _ (.tail _ (.head _)))))
                    have hBn : (o.l, PySem.W.listOf (Mine.prs o.ps).toArray o.n2) ∈ B := by rw [← hT5]; exact .tail _ (.tail _ (.tail _ (.tail _ (.tail _ (.tail _ (.head _))))))
                    have hBp : ∀ q ∈ o.ps, Mine.Pr.o q ∈ B := fun q hq => by
                      rw [hB]
                      simp only [Mine.LwO, List.mem_cons, List.mem_append]
                      exact .inr (.inr (.inr (.inr (.inr (.inr (.inr (.inl (List.mem_map.mpr ⟨q, hq, rfl⟩))))))))
                    refine LCt.CompSrcT.ledger (by rfl) F9 N14 hBn (by rw [sizeLine_eq]; simp [Mine.prs]; omega) ?_
                    intro gh
                    refine Mine.CompRestT.ind (fun j ys nw => ys = Mine.prs ((o.ps.take j).filter fun p => p.lap != o.lap) ∧ nw = B) ⟨rfl, rfl⟩ ?_ ?_
                    · rintro ys nw ⟨rfl, rfl⟩
                      rw [LCg.FinE]
                      intro D hh tkk F10 N15 o1
                      have hDx := Mine.off1_mem o1
                      have htk : o.ps.take (Mine.prs o.ps).toArray.size = o.ps := List.take_of_length_le (by simp [Mine.prs])
                      rw [htk] at N15
                      obtain ⟨F, hF⟩ : ∃ F, F = o.ps.filter fun p => p.lap != o.lap := ⟨_, rfl⟩
                      rw [← hF] at N15
                      have hDox : @Ne Nat D o.x := Ne.symm (hDx _ hBx)
                      have N16 : News _ s1.heap.objs.size hh ((D, PySem.W.listOf (Mine.prs F).toArray (Mine.prs F).length) :: (s1.heap.objs.size + 1, oc) :: (s1.heap.objs.size + 1 + 1, bc2) :: (dk, PySem.W.listOf #[.ref cL, .int (k + 1 + 1 + 1) tk5] n5) :: (cL, LCg.lst cs) :: (ol, PySem.W.listOf (Mine.ostk os3 ++ [Value.ref o.x]).toArray m3) :: (o.x, PySem.W.listOf #[.ref o.l, .int o.lap o.kt] o.n1) :: (o.l, PySem.W.listOf (Mine.prs o.ps).toArray o.n2) :: T4) := fun q hq => N15 q (by rw [← hT5]; exact hq)
                      clear N14 N15
                      k_steps
                      rename Fr _ s1.heap.objs.size _ _ => F11
                      rename News _ s1.heap.objs.size _ _ => N17
                      obtain ⟨kt', N18⟩ : ∃ kt', News _ s1.heap.objs.size _ ((D, PySem.W.listOf (Mine.prs F).toArray (Mine.prs F).length) :: (s1.heap.objs.size + 1, oc) :: (s1.heap.objs.size + 1 + 1, bc2) :: (dk, PySem.W.listOf #[.ref cL, .int (k + 1 + 1 + 1) tk5] n5) :: (cL, LCg.lst cs) :: (ol, PySem.W.listOf (Mine.ostk os3 ++ [Value.ref o.x]).toArray m3) :: (o.x, PySem.W.listOf #[.ref D, .int o.lap kt'] o.n1) :: (o.l, PySem.W.listOf (Mine.prs o.ps).toArray o.n2) :: T4) := ⟨_, N17⟩
                      have hW5 := hW4.newL (w := w) (tS := tS) (n := m2) (n' := m3) (o1 := oc) (o2 := bc2) (o3 := PySem.W.listOf #[.ref cL, .int (k + 1 + 1 + 1) tk5] n5) (o4 := LCg.lst cs) (D := D) (oo := { o with l := D, n2 := (Mine.prs F).length, kt := kt', ps := F }) (fun p hp => hDx p (by rw [hB]; exact (Mine.lwO_iff p).mpr hp)) rfl rfl (by rw [hF]; exact List.filter_sublist)
                      refine Mine.law_end (k := k + 1 + 1 + 1) (tk := tk5) (n0 := n5) (n := m2) (n' := m3) (oc := oc) (bc := bc2) F11 N18 (by rfl) (by rfl) (fun p hp => ?_) hoc hbc2 (by omega) (by omega) hW5 (Mine.skip_rel' hR2 he2 hF rfl)
                      have hp' := (Mine.lwO_iff p).mpr hp
                      simp only [Mine.LwO, List.mem_cons, List.mem_append] at hp'
                      rw [hT4]
                      simp only [List.mem_cons, List.mem_append]
                      rcases hp' with h | h | h | h | h | h | h | h | h | h
                      · simp [h]
                      · simp [h]
                      · simp [h]
                      · simp [h]
                      · simp [h]
                      · simp [h]
                      · simp [h]
                      · obtain ⟨q, hq, rfl⟩ := List.mem_map.mp h
                        have hq' : q ∈ o.ps := by rw [hF] at hq; exact (List.mem_filter.mp hq).1
                        simp only [List.mem_map]
                        exact .inr (.inr (.inr (.inr (.inr (.inr (.inr (.inr (.inl ⟨q, hq', rfl⟩))))))))
                      · simp [h]
                      · simp [h]
                    · rintro j ys nw v I oI C oC D m₂ hh tkk E' hj ⟨rfl, rfl⟩ hP hC hx F10 N15 off hne6
                      have hjn : j < o.ps.length := by simpa [Mine.prs] using hj
                      obtain ⟨p, hp⟩ : ∃ p, o.ps[j]? = some p := ⟨o.ps[j], by simp [hjn]⟩
                      have hv : v = .ref p.a := by
                        have hP' : (Mine.prs o.ps)[j]? = some v := by simpa using hP
                        simp only [Mine.prs, List.getElem?_map, hp, Option.map_some, Option.some.injEq] at hP'
                        exact hP'.symm
                      subst hv
                      have hpm : p ∈ o.ps := List.mem_of_getElem? hp
                      have N16 : News _ s1.heap.objs.size hh ((I, oI) :: (C, oC) :: (p.a, Mine.tupOf [.int p.lap p.t, .int p.ev p.u]) :: (s1.heap.objs.size + 1, oc) :: (s1.heap.objs.size + 1 + 1, bc2) :: (dk, PySem.W.listOf #[.ref cL, .int (k + 1 + 1 + 1) tk5] n5) :: (cL, LCg.lst cs) :: (ol, PySem.W.listOf (Mine.ostk os3 ++ [Value.ref o.x]).toArray m3) :: (o.x, PySem.W.listOf #[.ref o.l, .int o.lap o.kt] o.n1) :: (o.l, PySem.W.listOf (Mine.prs o.ps).toArray o.n2) :: T4) := fun q hq => N15 q (by
                        rcases List.mem_cons.mp hq with h | hq
                        · rw [h]; exact .head _
                        · rcases List.mem_cons.mp hq with h | hq
                          · rw [h]; exact .tail _ (.head _)
                          · rcases List.mem_cons.mp hq with h | hq
                            · rw [h]; exact .tail _ (.tail _ (.tail _ (hBp p hpm)))
                            · rw [hT5] at hq; exact .tail _ (.tail _ (.tail _ hq)))
                      k_steps
                      · rename (p.lap ≠ o.lap) => ha
                        have hts : o.ps.take (j + 1) = o.ps.take j ++ [p] := by rw [List.take_add_one, hp]; rfl
                        refine LCg.CompEnd.intro F10 N15 nw (fun q hq => hq) off (.inr ⟨_, hBn, rfl, _, rfl⟩) ⟨?_, rfl⟩
                        rw [hts, List.filter_append]
                        have e1 : List.filter (fun p => p.lap != o.lap) [p] = [p] := by simp [ha]
                        rw [e1]
                        simp [Mine.prs]
                      · rename (p.lap = o.lap) => ha
                        refine LCg.CompEnd.intro F10 N15 nw (fun q hq => hq) off (.inr ⟨_, hBn, rfl, _, rfl⟩) ⟨?_, rfl⟩
                        have hts : o.ps.take (j + 1) = o.ps.take j ++ [p] := by rw [List.take_add_one, hp]; rfl
                        rw [hts, List.filter_append]
                        have e1 : List.filter (fun p => p.lap != o.lap) [p] = [] := by simp [ha]
                        rw [e1, List.append_nil]
                · refine ⟨?_⟩
                  rename Fr _ s1.heap.objs.size _ _ => F8
                  rename News _ s1.heap.objs.size _ _ => N11
                  obtain ⟨tk5, n5, N12⟩ : ∃ tk5 n5, News _ s1.heap.objs.size _ ((s1.heap.objs.size + 1, oc) :: (s1.heap.objs.size + 1 + 1, bc2) :: (dk, PySem.W.listOf #[.ref cL, .int (k + 1 + 1 + 1) tk5] n5) :: (cL, LCg.lst cs) :: (px, instObj 129 pd) :: (pd, Mine.plDict w tS pl) :: (pl, PySem.W.listOf (Mine.stk es3 ++ [Value.ref e.x]).toArray m2) :: (ol, PySem.W.listOf (Mine.ostk os3 ++ [Value.ref o.x]).toArray m3) :: T3) := ⟨_, _, fun p hp => N11 p (.tail _ (.tail _ hp))⟩
                  clear N11
                  refine Mine.Tell.use (Mine.last_main (tS := tS) (n := m2) (n' := m3) (o1 := oc) (o2 := bc2) (o3 := PySem.W.listOf #[.ref cL, .int (k + 1 + 1 + 1) tk5] n5) (o4 := LCg.lst cs) hW3 (fun p hp => by
                    rw [hT3, ← Mine.stk_app, ← Mine.ostk_app]
                    have h9 := (Mine.lwP_iff p).mpr hp; first | exact h9 | exact .tail _ h9 | exact .tail _ (.tail _ h9) | exact .tail _ (.tail _ (.tail _ h9)))) (by k_asm) F8 (by k_asm) N12 (by k_asm) (by rfl) (by simp only [depth_deeper, depth_caller]; decide) (by simp only [units_deeper, units_caller]; decide) ?_
                  rintro _ h9 tk9 _ ⟨e2, rfl, rfl, hW4, he2⟩ F9 N13
                  obtain ⟨⟨d1, d2, d3, d4, d5, d6⟩, hTo4⟩ := hW4.oxFacts (w := w) (tS := tS) (n := m2)
                  obtain ⟨T4, hT4⟩ : ∃ T4, T4 = o.ps.map Mine.Pr.o ++ (os3.flatMap Mine.owL ++ (Mine.plLed w px pd tS pl m2 (es3 ++ [e2]) ++ own)) := ⟨_, rfl⟩
                  rw [← hT4] at hTo4
                  have N14 : News _ s1.heap.objs.size h9 ((s1.heap.objs.size + 1, oc) :: (s1.heap.objs.size + 1 + 1, bc2) :: (dk, PySem.W.listOf #[.ref cL, .int (k + 1 + 1 + 1) tk5] n5) :: (cL, LCg.lst cs) :: (ol, PySem.W.listOf (Mine.ostk os3 ++ [Value.ref o.x]).toArray m3) :: (o.x, PySem.W.listOf #[.ref o.l, .int o.lap o.kt] o.n1) :: (o.l, PySem.W.listOf (Mine.prs o.ps).toArray o.n2) :: T4) := kst_newsOf N13 (fun p hp => by
                    rw [hT4] at hp
                    exact (Mine.lwO_iff p).mp hp)
                  clear N12 N13 F8 hT3 hb1 hb2 hb3 hb4 hb5 hb6 c1 c2 c3 c4 hTo3
                  exact by
                    k_steps
                    rename Fr _ s1.heap.objs.size _ _ => F10
                    rename News _ s1.heap.objs.size _ _ => N15
                    rename (@LT.lt Nat _ _ _ ∧ _) => l1
                    obtain ⟨D, kt', hD, N16⟩ : ∃ D kt', AllLt D (Mine.LwO w (s1.heap.objs.size + 1) (s1.heap.objs.size + 1 + 1) dk cL px pd tS pl m2 ol m3 oc bc2 (PySem.W.listOf #[.ref cL, .int (k + 1 + 1 + 1) tk5] n5) (LCg.lst cs) (es3 ++ [e2]) os3 o own) ∧
                        News _ s1.heap.objs.size _ ((D, PySem.W.listOf (#[] : Array Value) 0) :: (s1.heap.objs.size + 1, oc) :: (s1.heap.objs.size + 1 + 1, bc2) :: (dk, PySem.W.listOf #[.ref cL, .int (k + 1 + 1 + 1) tk5] n5) :: (cL, LCg.lst cs) :: (ol, PySem.W.listOf (Mine.ostk os3 ++ [Value.ref o.x]).toArray m3) :: (o.x, PySem.W.listOf #[.ref D, .int o.lap kt'] o.n1) :: (o.l, PySem.W.listOf (Mine.prs o.ps).toArray o.n2) :: T4) := ⟨_, _, (by rw [hT4] at l1; exact l1), N15⟩
                    have hD' := kst_ltOf hD
                    have hW5 := hW4.newL (w := w) (tS := tS) (n := m2) (n' := m3) (o1 := oc) (o2 := bc2) (o3 := PySem.W.listOf #[.ref cL, .int (k + 1 + 1 + 1) tk5] n5) (o4 := LCg.lst cs) (D := D) (oo := { o with l := D, n2 := 0, kt := kt', ps := [] }) (fun p hp => Nat.ne_of_lt (hD' p ((Mine.lwO_iff p).mpr hp))) rfl rfl (List.nil_sublist _)
                    refine Mine.law_end (k := k + 1 + 1 + 1) (tk := tk5) (n0 := n5) (n := m2) (n' := m3) (oc := oc) (bc := bc2) F10 N16 (by rfl) (by rfl) (fun p hp => ?_) hoc hbc2 (by omega) (by omega) hW5 (Mine.last_rel' hR2 he2 rfl rfl)
                    have hp' := (Mine.lwO_iff p).mpr hp
                    simp only [Mine.LwO, Mine.prs, List.map_nil, List.nil_append, List.mem_cons, List.mem_append] at hp'
                    rw [hT4]
                    simp only [List.mem_cons, List.mem_append]
                    rcases hp' with h | h | h | h | h | h | h | h | h | h <;> simp [h]
                · rename Fr _ s1.heap.objs.size _ _ => F8
                  rename News _ s1.heap.objs.size _ _ => N11
                  obtain ⟨tk5, n5, N12⟩ : ∃ tk5 n5, News _ s1.heap.objs.size _ ((s1.heap.objs.size + 1, oc) :: (s1.heap.objs.size + 1 + 1, bc2) :: (dk, PySem.W.listOf #[.ref cL, .int (k + 1 + 1) tk5] n5) :: (cL, LCg.lst cs) :: (px, instObj 129 pd) :: (pd, Mine.plDict w tS pl) :: (pl, PySem.W.listOf (Mine.stk es3 ++ [Value.ref e.x]).toArray m2) :: (ol, PySem.W.listOf (Mine.ostk os3 ++ [Value.ref o.x]).toArray m3) :: T3) := ⟨_, _, fun p hp => N11 p (.tail _ (.tail _ hp))⟩
                  refine Mine.law_end (k := k + 1 + 1) (tk := tk5) (n0 := n5) (n := m2) (n' := m3) (oc := oc) (bc := bc2) (es := es3 ++ [e]) (os := os3 ++ [o]) F8 N12 (by rfl) (by rfl) (fun p hp => ?_) hoc hbc2 (by omega) (by omega) hW3 hR2
                  rw [hT3, ← Mine.stk_app, ← Mine.ostk_app]
                  have h9 := (Mine.lwP_iff p).mpr hp; first | exact h9 | exact .tail _ h9 | exact .tail _ (.tail _ h9) | exact .tail _ (.tail _ (.tail _ h9))
          · obtain ⟨h5, hos⟩ := not_or.mp h5
            exact by
              obtain ⟨hev, hR2, hxn, hxs⟩ := Mine.next_rel (by omega) hR
              have hoe : (Mine.ostk os).isEmpty = false := by cases os with | nil => exact absurd rfl hos | cons a r => rfl
              obtain ⟨T1, hT1⟩ : ∃ T1, T1 = es.flatMap (Mine.entL w) ++ (os.flatMap Mine.owL ++ own) := ⟨_, rfl⟩
              have N7 : News _ s1.heap.objs.size _ ((s1.heap.objs.size + 1, oc) :: (s1.heap.objs.size + 1 + 1, bc2) :: (dk, PySem.W.listOf #[.ref cL, .int (k + 1) tk2] n2) :: (cL, LCg.lst cs) :: (px, instObj 129 pd) :: (pd, Mine.plDict w tS pl) :: (pl, PySem.W.listOf (Mine.stk es).toArray n) :: (ol, PySem.W.listOf (Mine.ostk os).toArray n') :: T1) := kst_newsOf N6 (fun p hp => by
                rw [hT1] at hp
                rw [hT]
                exact (Mine.lwP_iff p).mp hp)
              clear N6 hT hTo hol hb1 hb2 hb3 hb4 hb5 hb6
              k_steps
              refine ⟨?_⟩
              rename Fr _ s1.heap.objs.size _ _ => F6
              rename News _ s1.heap.objs.size _ _ => N8
              refine Mine.Tell.use (Mine.next_main (tS := tS) (n := n) (n' := n') (o1 := oc) (o2 := bc2) (o3 := PySem.W.listOf #[.ref cL, .int (k + 1) tk2] n2) (o4 := LCg.lst cs) hW (fun p hp => by
                rw [hT1]
                have h9 := (Mine.lwP_iff p).mpr hp; first | exact h9 | exact .tail _ h9 | exact .tail _ (.tail _ h9) | exact .tail _ (.tail _ (.tail _ h9)))) (by k_asm) F6 (by k_asm) N8 (by k_asm) (by rfl) (by simp only [depth_deeper, depth_caller]; decide) (by simp only [units_deeper, units_caller]; decide) ?_
              rintro _ h7 tk7 _ ⟨m2, es2, rfl, hW2, hp2, u2, rfl⟩ F7 N9
              rw [hev]
              obtain ⟨T2, hT2⟩ : ∃ T2, T2 = es2.flatMap (Mine.entL w) ++ (os.flatMap Mine.owL ++ own) := ⟨_, rfl⟩
              have N10 : News _ s1.heap.objs.size h7 ((s1.heap.objs.size + 1, oc) :: (s1.heap.objs.size + 1 + 1, bc2) :: (dk, PySem.W.listOf #[.ref cL, .int (k + 1) tk2] n2) :: (cL, LCg.lst cs) :: (px, instObj 129 pd) :: (pd, Mine.plDict w tS pl) :: (pl, PySem.W.listOf (Mine.stk es2).toArray m2) :: (ol, PySem.W.listOf (Mine.ostk os).toArray n') :: T2) := kst_newsOf N9 (fun p hp => by
                rw [hT2] at hp
                exact (Mine.lwP_iff p).mp hp)
              clear N8 N9 F6
              k_steps
              refine ⟨?_⟩
              refine Mine.Tell.use (Mine.own_main (tS := tS) (n := m2) (n' := n') (o1 := oc) (o2 := bc2) (o3 := PySem.W.listOf #[.ref cL, .int (k + 1) tk2] n2) (o4 := LCg.lst cs) hW2 (fun p hp => by
                rw [hT2]
                have h9 := (Mine.lwP_iff p).mpr hp; first | exact h9 | exact .tail _ h9 | exact .tail _ (.tail _ h9) | exact .tail _ (.tail _ (.tail _ h9)))) (by k_asm) F7 (by k_asm) N10 (by k_asm) (by rfl) (by simp only [depth_deeper, depth_caller]; decide) (by simp only [units_deeper, units_caller]; decide) ?_
              rintro _ h8 tk8 _ ⟨m3, os2, rfl, hW3, hp3, u3, rfl⟩ F8 N11
              rw [← hp2, ← hp3] at hR2
              clear N10 F7
              cases hE : (Mine.onextR (Mine.oes os)).1 with
              | none =>
                dsimp only [Mine.optV]
                have hes2 : es2 = [] := by
                  have h1 : Mine.pes es2 = [] := by rw [hp2]; exact hxn (by rw [hev, hE])
                  simpa [Mine.pes] using h1
                subst hes2
                have hos2 : os2 = [] := by
                  have h1 := hR2.length
                  exact List.length_eq_zero_iff.mp (by simpa [Mine.pes, Mine.oes] using h1.symm)
                subst hos2
                have N12 : News _ s1.heap.objs.size h8 ((s1.heap.objs.size + 1, oc) :: (s1.heap.objs.size + 1 + 1, bc2) :: (dk, PySem.W.listOf #[.ref cL, .int (k + 1) tk2] n2) :: (cL, LCg.lst cs) :: (px, instObj 129 pd) :: (pd, Mine.plDict w tS pl) :: (pl, PySem.W.listOf (#[] : Array Value) m2) :: (ol, PySem.W.listOf (#[] : Array Value) m3) :: own) := fun p hp => N11 p (by
                  exact (Mine.lwP_iff p).mp hp)
                clear N11
                k_steps
                refine ⟨?_⟩
                refine Mine.Tell.use (Mine.stop_main (tS := tS) (n := m2) (n' := m3) (o1 := oc) (o2 := bc2) (o3 := PySem.W.listOf #[.ref cL, .int (k + 1) tk2] n2) (o4 := LCg.lst cs) hW3 (fun p hp => by
                  have h9 := (Mine.lwP_iff p).mpr hp; first | exact h9 | exact .tail _ h9 | exact .tail _ (.tail _ h9) | exact .tail _ (.tail _ (.tail _ h9)))) (by k_asm) F8 (by k_asm) N12 (by k_asm) (by rfl) (by simp only [depth_deeper, depth_caller]; decide) (by simp only [units_deeper, units_caller]; decide) ?_
                rintro _ h9 tk9 _ ⟨l2, u4, rfl, rfl, hW4⟩ F9 N13
                dsimp only [Mine.bottomOver]
                have N14 : News _ s1.heap.objs.size h9 ((s1.heap.objs.size + 1, oc) :: (s1.heap.objs.size + 1 + 1, bc2) :: (dk, PySem.W.listOf #[.ref cL, .int (k + 1) tk2] n2) :: (cL, LCg.lst cs) :: (px, instObj 129 pd) :: (pd, Mine.plDict w tS l2) :: (l2, PySem.W.listOf (#[] : Array Value) 0) :: (ol, PySem.W.listOf (#[] : Array Value) m3) :: own) := fun p hp => N13 p (by
                  exact (Mine.lwP_iff p).mp hp)
                clear N12 N13 F8
                obtain ⟨⟨c1, c2, c3, c4, c5, c6, c7⟩, -, -, hcZ⟩ := hW4.cOFacts (w := w)
                k_steps
                rename Fr _ s1.heap.objs.size _ _ => F10
                rename News _ s1.heap.objs.size _ _ => N15
                rename (@LT.lt Nat _ _ _ ∧ _) => l1
                rename (Obj.data _ = Data.cell (some (Value.ref _))) => hcell
                obtain ⟨D, D1, oc9, hD, hcell, N16⟩ : ∃ (D D1 : Nat) (oc9 : Obj), AllLt D ((D1, PySem.W.listOf (#[] : Array Value) 0) :: (s1.heap.objs.size + 1, oc) :: (s1.heap.objs.size + 1 + 1, bc2) :: (dk, PySem.W.listOf #[.ref cL, .int (k + 1) tk2] n2) :: (cL, LCg.lst cs) :: (px, instObj 129 pd) :: (pd, Mine.plDict w tS l2) :: (l2, PySem.W.listOf (#[] : Array Value) 0) :: (ol, PySem.W.listOf (#[] : Array Value) m3) :: own) ∧ oc9.data = .cell (some (.ref D)) ∧
                    News _ s1.heap.objs.size _ ((D, PySem.W.listOf (#[] : Array Value) 0) :: (D1, PySem.W.listOf (#[] : Array Value) 0) :: (s1.heap.objs.size + 1, oc9) :: (s1.heap.objs.size + 1 + 1, bc2) :: (dk, PySem.W.listOf #[.ref cL, .int (k + 1) tk2] n2) :: (cL, LCg.lst cs) :: (px, instObj 129 pd) :: (pd, Mine.plDict w tS l2) :: (l2, PySem.W.listOf (#[] : Array Value) 0) :: (ol, PySem.W.listOf (#[] : Array Value) m3) :: own) := ⟨_, _, _, l1, hcell, N15⟩
                have hD' := kst_ltOf hD
                have hW5 := hW4.newOl (w := w) (tS := tS) (n := 0) (n' := m3) (o1 := oc) (o2 := bc2) (o3 := PySem.W.listOf #[.ref cL, .int (k + 1) tk2] n2) (o4 := LCg.lst cs) (D := D) (fun p hp => Nat.ne_of_lt (hD' p (by
                  have h9 := (Mine.lwP_iff p).mpr hp; first | exact h9 | exact .tail _ h9 | exact .tail _ (.tail _ h9) | exact .tail _ (.tail _ (.tail _ h9)))))
                refine Mine.law_end (k := k + 1) (tk := tk2) (n0 := n2) (n := 0) (n' := 0) (oc := oc9) (bc := bc2) F10 N16 (by rfl) (by rfl) (fun p hp => ?_) hcell hbc2 (by omega) (by omega) hW5 (by exact Mine.Rel.nil)
                simp only [Mine.Lw, Mine.plLed, Mine.ownLed, Mine.stk, Mine.ostk, List.map_nil, List.flatMap_nil, List.mem_cons, List.mem_append, List.not_mem_nil, or_false] at hp ⊢
                grind
              | some ev =>
                dsimp only [Mine.optV]
                obtain ⟨p, r, hpr, hpd⟩ := hxs ev (by rw [hev, hE])
                rw [← hp2] at hpr
                have hne2 : es2 ≠ [] := by rintro rfl; simp [Mine.pes] at hpr
                obtain ⟨e0, er, rfl⟩ := List.exists_cons_of_ne_nil hne2
                have hol2 := hR2.length
                have hne3 : os2 ≠ [] := by rintro rfl; simp [Mine.pes, Mine.oes] at hol2
                obtain ⟨o0, ors, rfl⟩ := List.exists_cons_of_ne_nil hne3
                have hov := Mine.bottom_over hR2
                obtain ⟨T3, hT3⟩ : ∃ T3, T3 = (e0 :: er).flatMap (Mine.entL w) ++ ((o0 :: ors).flatMap Mine.owL ++ own) := ⟨_, rfl⟩
                have N12 : News _ s1.heap.objs.size h8 ((s1.heap.objs.size + 1, oc) :: (s1.heap.objs.size + 1 + 1, bc2) :: (dk, PySem.W.listOf #[.ref cL, .int (k + 1) tk2] n2) :: (cL, LCg.lst cs) :: (px, instObj 129 pd) :: (pd, Mine.plDict w tS pl) :: (pl, PySem.W.listOf (Mine.stk (e0 :: er)).toArray m2) :: (ol, PySem.W.listOf (Value.ref o0.x :: Mine.ostk ors).toArray m3) :: T3) := kst_newsOf N11 (fun p hp => by
                  rw [hT3] at hp
                  exact (Mine.lwP_iff p).mp hp)
                clear N11
                k_steps
                all_goals (first
                  | (rename (ev ≠ ev) => hx; exact absurd rfl hx)
                  | skip)
                refine ⟨?_⟩
                refine Mine.Tell.use (Mine.stop_main (tS := tS) (n := m2) (n' := m3) (o1 := oc) (o2 := bc2) (o3 := PySem.W.listOf #[.ref cL, .int (k + 1) tk2] n2) (o4 := LCg.lst cs) hW3 (fun p hp => by
                  rw [hT3]
                  have h9 := (Mine.lwP_iff p).mpr hp; first | exact h9 | exact .tail _ h9 | exact .tail _ (.tail _ h9) | exact .tail _ (.tail _ (.tail _ h9)))) (by k_asm) F8 (by k_asm) N12 (by k_asm) (by rfl) (by simp only [depth_deeper, depth_caller]; decide) (by simp only [units_deeper, units_caller]; decide) ?_
                rintro _ h9 tk9 _ ⟨l2, u4, rfl, rfl, hW4⟩ F9 N13
                dsimp only [Mine.bottomOver]
                rw [← hov]
                obtain ⟨⟨c1, c2, c3, c4, c5, c6, c7⟩, -, hcZ, -⟩ := hW4.cOFacts (w := w)
                obtain ⟨T4, hT4⟩ : ∃ T4, T4 = (o0 :: ors).flatMap Mine.owL ++ own := ⟨_, rfl⟩
                rw [← hT4] at hcZ
                have hbx : (o0.x, PySem.W.listOf #[.ref o0.l, .int o0.lap o0.kt] o0.n1) ∈ T4 := by rw [hT4]; simp [Mine.owL]
                have c8 : @Ne Nat o0.x (s1.heap.objs.size + 1) := hcZ _ hbx _ (List.mem_singleton.mpr rfl)
                have N14 : News _ s1.heap.objs.size h9 ((s1.heap.objs.size + 1, oc) :: (s1.heap.objs.size + 1 + 1, bc2) :: (dk, PySem.W.listOf #[.ref cL, .int (k + 1) tk2] n2) :: (cL, LCg.lst cs) :: (px, instObj 129 pd) :: (pd, Mine.plDict w tS l2) :: (l2, PySem.W.listOf (#[] : Array Value) 0) :: (ol, PySem.W.listOf (Value.ref o0.x :: Mine.ostk ors).toArray m3) :: (o0.x, PySem.W.listOf #[.ref o0.l, .int o0.lap o0.kt] o0.n1) :: T4) := fun p hp => N13 p (by
                  have hq := Mine.mem_dup8 hbx hp
                  rw [hT4] at hq
                  exact (Mine.lwP_iff p).mp hq)
                clear N12 N13 F8
                k_steps
                all_goals (first
                  | (rename (o0.lap ≠ o0.lap) => hx; exact absurd rfl hx)
                  | skip)
                rename Fr _ s1.heap.objs.size _ _ => F10
                rename News _ s1.heap.objs.size _ _ => N15
                rename (@LT.lt Nat _ _ _ ∧ _) => l1
                rename (Obj.data _ = Data.cell (some (Value.ref _))) => hcell
                obtain ⟨D, D1, oc9, hD, hcell, N16⟩ : ∃ (D D1 : Nat) (oc9 : Obj), AllLt D ((D1, PySem.W.listOf (#[] : Array Value) 0) :: (s1.heap.objs.size + 1, oc) :: (s1.heap.objs.size + 1 + 1, bc2) :: (dk, PySem.W.listOf #[.ref cL, .int (k + 1) tk2] n2) :: (cL, LCg.lst cs) :: (px, instObj 129 pd) :: (pd, Mine.plDict w tS l2) :: (l2, PySem.W.listOf (#[] : Array Value) 0) :: (ol, PySem.W.listOf (Value.ref o0.x :: Mine.ostk ors).toArray m3) :: (o0.x, PySem.W.listOf #[.ref o0.l, .int o0.lap o0.kt] o0.n1) :: T4) ∧ oc9.data = .cell (some (.ref D)) ∧
                    News _ s1.heap.objs.size _ ((D, PySem.W.listOf (#[] : Array Value) 0) :: (D1, PySem.W.listOf (#[] : Array Value) 0) :: (s1.heap.objs.size + 1, oc9) :: (s1.heap.objs.size + 1 + 1, bc2) :: (dk, PySem.W.listOf #[.ref cL, .int (k + 1) tk2] n2) :: (cL, LCg.lst cs) :: (px, instObj 129 pd) :: (pd, Mine.plDict w tS l2) :: (l2, PySem.W.listOf (#[] : Array Value) 0) :: (ol, PySem.W.listOf (Value.ref o0.x :: Mine.ostk ors).toArray m3) :: (o0.x, PySem.W.listOf #[.ref o0.l, .int o0.lap o0.kt] o0.n1) :: T4) := ⟨_, _, _, l1, hcell, N15⟩
                have hD' := kst_ltOf hD
                have hW5 := hW4.newOl (w := w) (tS := tS) (n := 0) (n' := m3) (o1 := oc) (o2 := bc2) (o3 := PySem.W.listOf #[.ref cL, .int (k + 1) tk2] n2) (o4 := LCg.lst cs) (D := D) (fun p hp => Nat.ne_of_lt (hD' p (by
                  rw [hT4]
                  exact .tail _ (Mine.mem_ins8 ((Mine.lwP_iff p).mpr hp)))))
                refine Mine.law_end (k := k + 1) (tk := tk2) (n0 := n2) (n := 0) (n' := 0) (oc := oc9) (bc := bc2) F10 N16 (by rfl) (by rfl) (fun p hp => ?_) hcell hbc2 (by omega) (by omega) hW5 (by exact Mine.Rel.nil)
                simp only [Mine.Lw, Mine.plLed, Mine.ownLed, Mine.stk, Mine.ostk, List.map_nil, List.flatMap_nil, List.mem_cons, List.mem_append, List.not_mem_nil, or_false] at hp ⊢
                rw [hT4]
                simp only [List.mem_append]
                grind
    · intro n m₁ nx h tk _ F3 N3
      clear F2 N2
      k_steps
