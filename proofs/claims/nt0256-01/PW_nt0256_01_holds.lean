import PyProof.Rows.All
import Wide.All
import OpenK.AllK
import Wide.FinOn
import PyProof.AttrMissHeap
import PyProof.Rows.SetFrom
import KE.KLcPair
import KE.KDictSum
import PySem.Challenge.RW_nt0256_01
set_option Elab.async false
section
open PySem PySem.W PyProof.Rows
namespace Mine
set_option maxRecDepth 100000 in
set_option maxHeartbeats 8000000 in
open_top hd for PySem.Challenge.rw_nt0256_01
end Mine
end

section
open PySem PySem.W PyProof.Rows
namespace Mine
abbrev PG : Program := PySem.Challenge.pw_nt0256_01
/-- what a call of a def of the text gives, over any caller's frame -/
def Ctr (w : World) (f : Addr) (args : List Value) (news : List (Addr × Obj)) (D U : Nat) (Post : Value → List (Addr × Obj) → Prop) : Prop :=
  ∀ (p : Program) (loose : List Str) (mean : ExcName → Option Value) (mg mb : Str → Option Value) (dp un : Nat) (gd : Option (List Code)) (cn : Str) (cs : Scope) (a : Addr) (ccd : Value) (cl : List (Str × Addr)) (outer : List Env) (A₀ : Around) (base h₀ : Heap) (L : Addr) (m : Str → Option Value) (s : Shared) (Q E : Value → Shared → Prop),
    Below A₀ base outer h₀ → Fr h₀ L s.heap m → (Mine.hd.heap_39 w.params).In h₀ → News h₀ L s.heap news → Top p loose mean mg mb h₀ → cs.kind = .function → dp + D < recursionLimit → un + U < cLine →
    (∀ r news' h' tk', Fr h₀ L h' m → News h₀ L h' news' → Post r news' → Q r { s with heap := h', toks := tk' }) →
    wpAny (model PG w) (ktrTop dp un gd cn cs L a ccd cl outer) (call (.ref f) args) Q E s
/-- the row's constants, so that k_fill finds them -/
def Here (_ : OpenLaw) (_ : Params → Frag) (q : Prop) : Prop := q
theorem here_of {l : OpenLaw} {k : Params → Frag} {q : Prop} (h : q) : Here l k q := h
end Mine
end

section
open PySem PySem.W PyProof.Rows
set_option maxRecDepth 100000
namespace Mine
def textOfE : Expr → Str
  | .Constant (.str s) _ _ => s
  | _ => Str.empty
def rowOfE : Expr → Str × List Str × Str
  | .Tuple [n, .Tuple ns _ _, t] _ _ => (textOfE n, ns.map textOfE, textOfE t)
  | _ => (Str.empty, [], Str.empty)
/-- the table that the text's second statement writes: name, needs, text -/
def rowsD : List (Str × List Str × Str) := match PG.main.body with
  | _ :: .Assign _ (.Tuple es _ _) _ :: _ => es.map rowOfE
  | _ => []
def woundD : Str := match PG.main.body with
  | _ :: _ :: .Assign _ e _ :: _ => textOfE e
  | _ => Str.empty
def cwcc : Str := "call-with-current-continuation"
def wcc : Str := "%wound-call/cc"
def KN : List Str := rowsD.map (·.1)
theorem rows_len : rowsD.length = 23 := by decide +kernel

/-- one row as it lies in the heap -/
structure RowIn (K : Frag) (i : Nat) (r : Str × List Str × Str) : Prop where
  row : ∃ t u n, K.lookup (16 + 2 * i) = some ⟨.type "tuple", none, .seq #[.str r.1 t, .ref (15 + 2 * i), .str r.2.2 u] n, #[]⟩
  needs : ∃ vs n, K.lookup (15 + 2 * i) = some ⟨.type "tuple", none, .seq (List.toArray vs) n, #[]⟩ ∧ StrsAre vs r.2.1
theorem rowIn (w : World) : ∀ i r, rowsD[i]? = some r → RowIn (Mine.hd.heap_39 w.params) i r := by
  intro i r h
  have hi : i < 23 := by
    have := (List.getElem?_eq_some_iff.mp h).1
    rw [rows_len] at this; exact this
  match i, hi, h with
  | 0, _, h =>
    obtain rfl := Option.some.inj h
    exact ⟨⟨_, _, _, rfl⟩, ⟨_, _, rfl, by repeat' constructor⟩⟩
  | 1, _, h =>
    obtain rfl := Option.some.inj h
    exact ⟨⟨_, _, _, rfl⟩, ⟨_, _, rfl, by repeat' constructor⟩⟩
  | 2, _, h =>
    obtain rfl := Option.some.inj h
    exact ⟨⟨_, _, _, rfl⟩, ⟨_, _, rfl, by repeat' constructor⟩⟩
  | 3, _, h =>
    obtain rfl := Option.some.inj h
    exact ⟨⟨_, _, _, rfl⟩, ⟨_, _, rfl, by repeat' constructor⟩⟩
  | 4, _, h =>
    obtain rfl := Option.some.inj h
    exact ⟨⟨_, _, _, rfl⟩, ⟨_, _, rfl, by repeat' constructor⟩⟩
  | 5, _, h =>
    obtain rfl := Option.some.inj h
    exact ⟨⟨_, _, _, rfl⟩, ⟨_, _, rfl, by repeat' constructor⟩⟩
  | 6, _, h =>
    obtain rfl := Option.some.inj h
    exact ⟨⟨_, _, _, rfl⟩, ⟨_, _, rfl, by repeat' constructor⟩⟩
  | 7, _, h =>
    obtain rfl := Option.some.inj h
    exact ⟨⟨_, _, _, rfl⟩, ⟨_, _, rfl, by repeat' constructor⟩⟩
  | 8, _, h =>
    obtain rfl := Option.some.inj h
    exact ⟨⟨_, _, _, rfl⟩, ⟨_, _, rfl, by repeat' constructor⟩⟩
  | 9, _, h =>
    obtain rfl := Option.some.inj h
    exact ⟨⟨_, _, _, rfl⟩, ⟨_, _, rfl, by repeat' constructor⟩⟩
  | 10, _, h =>
    obtain rfl := Option.some.inj h
    exact ⟨⟨_, _, _, rfl⟩, ⟨_, _, rfl, by repeat' constructor⟩⟩
  | 11, _, h =>
    obtain rfl := Option.some.inj h
    exact ⟨⟨_, _, _, rfl⟩, ⟨_, _, rfl, by repeat' constructor⟩⟩
  | 12, _, h =>
    obtain rfl := Option.some.inj h
    exact ⟨⟨_, _, _, rfl⟩, ⟨_, _, rfl, by repeat' constructor⟩⟩
  | 13, _, h =>
    obtain rfl := Option.some.inj h
    exact ⟨⟨_, _, _, rfl⟩, ⟨_, _, rfl, by repeat' constructor⟩⟩
  | 14, _, h =>
    obtain rfl := Option.some.inj h
    exact ⟨⟨_, _, _, rfl⟩, ⟨_, _, rfl, by repeat' constructor⟩⟩
  | 15, _, h =>
    obtain rfl := Option.some.inj h
    exact ⟨⟨_, _, _, rfl⟩, ⟨_, _, rfl, by repeat' constructor⟩⟩
  | 16, _, h =>
    obtain rfl := Option.some.inj h
    exact ⟨⟨_, _, _, rfl⟩, ⟨_, _, rfl, by repeat' constructor⟩⟩
  | 17, _, h =>
    obtain rfl := Option.some.inj h
    exact ⟨⟨_, _, _, rfl⟩, ⟨_, _, rfl, by repeat' constructor⟩⟩
  | 18, _, h =>
    obtain rfl := Option.some.inj h
    exact ⟨⟨_, _, _, rfl⟩, ⟨_, _, rfl, by repeat' constructor⟩⟩
  | 19, _, h =>
    obtain rfl := Option.some.inj h
    exact ⟨⟨_, _, _, rfl⟩, ⟨_, _, rfl, by repeat' constructor⟩⟩
  | 20, _, h =>
    obtain rfl := Option.some.inj h
    exact ⟨⟨_, _, _, rfl⟩, ⟨_, _, rfl, by repeat' constructor⟩⟩
  | 21, _, h =>
    obtain rfl := Option.some.inj h
    exact ⟨⟨_, _, _, rfl⟩, ⟨_, _, rfl, by repeat' constructor⟩⟩
  | 22, _, h =>
    obtain rfl := Option.some.inj h
    exact ⟨⟨_, _, _, rfl⟩, ⟨_, _, rfl, by repeat' constructor⟩⟩
theorem rows_tup (w : World) : ∃ n, ((Mine.hd.heap_39 w.params)).lookup 61 = some ⟨.type "tuple", none, .seq (List.toArray ((List.range 23).map fun i => Value.ref (16 + 2 * i))) n, #[]⟩ := ⟨_, rfl⟩
end Mine
end

section
open PySem PySem.W PyProof.Rows
namespace Mine
section
variable {prog : Program} {w : World} {A : Around} {E : Value → Shared → Prop} {s : Shared} {env : Env} {h₀ : Heap} {target : Expr} {body : List Stmt} {Q : Flow → Shared → Prop}

/-- a turn's end: the loop goes on with the invariant, or leaves -/
def TEnd (h₀ : Heap) (L : Addr) (I : Addr) (oI : Obj) (keep : List (Addr × Obj)) (Jn : (Str → Option Value) → List (Addr × Obj) → Prop) (s₁ : Shared) (Q : Flow → Shared → Prop) (f : Flow) (s₂ : Shared) : Prop :=
  match f with
  | .ret v => Q (.ret v) s₂
  | .brk => Q .next s₂
  | _ => ∃ h' tk m' news', s₂ = { s₁ with heap := h', toks := tk } ∧ Fr h₀ L h' m' ∧ News h₀ L h' ((I, oI) :: news') ∧ (∀ p ∈ news', p.1 ≠ I) ∧ (∀ p ∈ keep, p ∈ news') ∧ Jn m' news'
theorem TEnd.go {h₀ h' : Heap} {L I : Addr} {oI : Obj} {keep news' : List (Addr × Obj)} {Jn : (Str → Option Value) → List (Addr × Obj) → Prop} {s₁ : Shared} {Q : Flow → Shared → Prop} {tk : Nat} {m' : Str → Option Value}
    (F : Fr h₀ L h' m') (N : News h₀ L h' ((I, oI) :: news')) (ho : ∀ p ∈ news', p.1 ≠ I) (hk : ∀ p ∈ keep, p ∈ news') (hJ : Jn m' news') : TEnd h₀ L I oI keep Jn s₁ Q .next { s₁ with heap := h', toks := tk } :=
  ⟨h', tk, m', news', rfl, F, N, ho, hk, hJ⟩

theorem turns_core {I : Addr} {fp : List Addr} {n : Nat} {P Md : Nat → Value → Heap → Prop} {St : Nat → Heap → Prop} {keep news : List (Addr × Obj)} {m₀ : Str → Option Value}
    (J : Nat → (Str → Option Value) → List (Addr × Obj) → Prop) (W : KTurns prog w A target I fp [I] n P Md St)
    (hfp : ∀ b ∈ fp, b = I ∨ (∃ o, (b, o) ∈ keep) ∨ ∃ o, h₀.get? b = some o)
    (hLf : env.locals ∉ fp) (hI0 : h₀.get? I = none) (hkI : ∀ p ∈ news, p.1 ≠ I)
    (hst : St 0 s.heap) (hob : ∀ i h, St i h → ∃ o, h.get? I = some o) (F : Fr h₀ env.locals s.heap m₀) (N : News h₀ env.locals s.heap news) (hkeep : ∀ p ∈ keep, p ∈ news) (hj : J 0 m₀ news)
    (turn : ∀ i v m₁ news₁ oI h tk, i < n → P i v h → J i m₁ news₁ → (∀ p ∈ keep, p ∈ news₁) → (∀ p ∈ news₁, p.1 ≠ I) → Fr h₀ env.locals h m₁ → News h₀ env.locals h ((I, oI) :: news₁) →
      wpAny (model prog w) A (assign target env v) (fun _ s₂ => wpAny (model prog w) A (execs body env) (TEnd h₀ env.locals I oI keep (J (i + 1)) { s with heap := h, toks := tk } Q) E s₂) E { s with heap := h, toks := tk })
    (done : ∀ m' news' h' tk, Fr h₀ env.locals h' m' → News h₀ env.locals h' news' → (∀ p ∈ keep, p ∈ news') → J n m' news' → Q .next { s with heap := h', toks := tk }) :
    TurnsAt prog w A h₀ env target body Q E (.ref I) s := by
  refine ⟨I, fp, [I], n, P, Md, St, m₀, news, fun i m nx => (∀ p ∈ keep, p ∈ nx) ∧ J i m nx, rfl, W, hLf, ?_, ?_, hst, F, N, ⟨hkeep, hj⟩, ?_, ?_⟩
  · intro b hb; rw [List.mem_singleton.mp hb]; exact hI0
  · intro p hp hb; exact hkI p hp (List.mem_singleton.mp hb)
  · rintro i v m₁ news₁ h₁ tk₁ own hin hP ⟨hk₁, hJ⟩ hoff hown hget hfps hst₁ F₁ N₁
    obtain ⟨oI, hoI⟩ := hob _ _ hst₁
    have hIL : I ≠ env.locals := fun e => hLf (e ▸ W.sub I (List.mem_singleton.mpr rfl))
    have hI₁ : ∀ p ∈ news₁, p.1 ≠ I := fun p hp e => hoff p hp (List.mem_singleton.mpr e)
    have N₂ : News h₀ env.locals h₁ ((I, oI) :: news₁) := fun p hp => by
      rcases List.mem_cons.mp hp with rfl | hp
      · exact ⟨hoI, hIL, hI0⟩
      · exact N₁ p (List.mem_append_right _ hp)
    refine wpAny_mono (turn i v m₁ news₁ oI h₁ tk₁ hin hP hJ hk₁ hI₁ F₁ N₂) (fun _ s₂ hb => wpAny_mono hb (fun f s₃ hf => ?_) fun _ _ e => e) fun _ _ e => e
    have fin : (∃ h' tk m' news', s₃ = { ({ s with heap := h₁, toks := tk₁ } : Shared) with heap := h', toks := tk } ∧ Fr h₀ env.locals h' m' ∧ News h₀ env.locals h' ((I, oI) :: news') ∧ (∀ p ∈ news', p.1 ≠ I) ∧ (∀ p ∈ keep, p ∈ news') ∧ J (i + 1) m' news') →
        LoopStepU h₀ env.locals [I] own (fun m nx => (∀ p ∈ keep, p ∈ nx) ∧ J (i + 1) m nx) { s with heap := h₁, toks := tk₁ } .next s₃ := by
      rintro ⟨h', tk, m', news', e, F', N', ho', hk', hJ'⟩
      refine ⟨rfl, h', tk, m', news', e, F', fun p hp => ?_, fun p hp hb => ho' p hp (List.mem_singleton.mp hb), hk', hJ'⟩
      rcases List.mem_append.mp hp with hp | hp
      · have hpN := N₁ p (List.mem_append_left _ hp)
        have hpg := hget p hp
        rcases hfp _ (hown p hp) with h | ⟨o, h⟩ | ⟨o, h⟩
        · have e1 : p = (I, oI) := Prod.ext h (by rw [h, hoI] at hpg; exact (Option.some.inj hpg).symm)
          rw [e1]; exact N' _ (List.mem_cons_self)
        · have h2 := (N₁ _ (List.mem_append_right _ (hk₁ _ h))).1
          have e1 : p = (p.1, o) := Prod.ext rfl (by rw [hpg] at h2; exact Option.some.inj h2)
          rw [e1]; exact N' _ (List.mem_cons_of_mem _ (hk' _ h))
        · rw [hpN.2.2] at h; cases h
      · exact N' p (List.mem_cons_of_mem _ hp)
    cases f with
    | ret v => exact hf
    | brk => exact hf
    | next => exact fin hf
    | cont => exact fin hf
  · rintro h' tk m' news' F' N' _ ⟨hk', hJ⟩
    exact done m' news' h' tk F' N' hk' hJ

/-- over a tuple that stood before the call -/
theorem iter_tup {ax : Addr} {its : Array Value} {news : List (Addr × Obj)} {m₀ : Str → Option Value} (J : Nat → (Str → Option Value) → List (Addr × Obj) → Prop)
    (hh : A.handled = none) (ht : IsTup h₀ ax its) (F : Fr h₀ env.locals s.heap m₀) (N : News h₀ env.locals s.heap news) (hj : J 0 m₀ news)
    (turn : ∀ i v m₁ news₁ I oI h tk, its[i]? = some v → J i m₁ news₁ → (∀ p ∈ news₁, p.1 ≠ I) → Fr h₀ env.locals h m₁ → News h₀ env.locals h ((I, oI) :: news₁) →
      wpAny (model prog w) A (assign target env v) (fun _ s₂ => wpAny (model prog w) A (execs body env) (TEnd h₀ env.locals I oI [] (J (i + 1)) { s with heap := h, toks := tk } Q) E s₂) E { s with heap := h, toks := tk })
    (done : ∀ m' news' h' tk, Fr h₀ env.locals h' m' → News h₀ env.locals h' news' → J its.size m' news' → Q .next { s with heap := h', toks := tk }) :
    wpAny (model prog w) A (pyIter (.ref ax)) (fun it s₂ => TurnsAt prog w A h₀ env target body Q E it s₂) E s := by
  have ht' : s.heap.IsTuple ax its := IsTup.keeps ht F.keep
  have hlt : ax < s.heap.objs.size := by obtain ⟨o, e, _⟩ := ht'; exact Heap.lt_size e
  have hne : ax ≠ s.heap.objs.size := Nat.ne_of_lt hlt
  have hax : ∃ o, h₀.get? ax = some o := by obtain ⟨o, e, _⟩ := ht; exact ⟨o, e⟩
  refine wpAny_pyIter_tuple ht' ?_
  have W : KTurns prog w A target s.heap.objs.size [s.heap.objs.size, ax] [s.heap.objs.size] its.size (fun i v _ => its[i]? = some v) _ _ :=
    KTurns.ofWalks (Walks.tuple (prog := prog) (w := w) (A := A) hh s.heap.objs.size ax hne its) fun i v s' Q' E' st hq => letGo_tupleiter st.1 hq
  have hL0 : env.locals < s.heap.objs.size := F.ns.lt
  refine turns_core (keep := []) J W ?_ ?_ (next_is_new F) (fun p hp => Nat.ne_of_lt (Heap.lt_size (N p hp).1)) ⟨⟨_, Heap.get?_push_size _ rfl, rfl, rfl⟩, ?_⟩ (fun i h st => ?_) (F.push _) (fun p hp => ⟨Heap.get?_push_of_some _ (N p hp).1, (N p hp).2⟩) (fun _ hp => nomatch hp) hj
    (fun i v m₁ news₁ oI h tk _ hP hJ _ ho F₁ N₁ => turn i v m₁ news₁ _ oI h tk hP hJ ho F₁ N₁) fun m' news' h' tk F' N' _ hJ => done m' news' h' tk F' N' hJ
  · intro b hb
    rcases List.mem_cons.mp hb with h | h
    · exact .inl h
    · rw [List.mem_singleton.mp h]; exact .inr (.inr hax)
  · intro hm
    rcases List.mem_cons.mp hm with e | e
    · exact absurd hL0 (e ▸ Nat.lt_irrefl _)
    · obtain ⟨o, e'⟩ := hax
      have := Heap.lt_size e'
      rw [← List.mem_singleton.mp e] at this
      exact absurd (Nat.lt_of_lt_of_le this F.above) (Nat.lt_irrefl _)
  · exact ht'.at fun o e => Heap.get?_push_of_some _ e
  · obtain ⟨o, e, _⟩ := st.1; exact ⟨o, e⟩

/-- over a list of the ledger -/
theorem iter_lst {l : Addr} {lo : Obj} {vs : List Value} {nn : Nat} {news : List (Addr × Obj)} {m₀ : Str → Option Value} (J : Nat → (Str → Option Value) → List (Addr × Obj) → Prop)
    (hh : A.handled = none) (hl : (l, lo) ∈ news) (hc : lo.cls = .type "list") (hd : lo.data = .seq vs.toArray nn) (F : Fr h₀ env.locals s.heap m₀) (N : News h₀ env.locals s.heap news) (hj : J 0 m₀ news)
    (turn : ∀ i v m₁ news₁ I oI h tk, vs[i]? = some v → J i m₁ news₁ → (l, lo) ∈ news₁ → (∀ p ∈ news₁, p.1 ≠ I) → Fr h₀ env.locals h m₁ → News h₀ env.locals h ((I, oI) :: news₁) →
      wpAny (model prog w) A (assign target env v) (fun _ s₂ => wpAny (model prog w) A (execs body env) (TEnd h₀ env.locals I oI [(l, lo)] (J (i + 1)) { s with heap := h, toks := tk } Q) E s₂) E { s with heap := h, toks := tk })
    (done : ∀ m' news' h' tk, Fr h₀ env.locals h' m' → News h₀ env.locals h' news' → (l, lo) ∈ news' → J vs.length m' news' → Q .next { s with heap := h', toks := tk }) :
    wpAny (model prog w) A (pyIter (.ref l)) (fun it s₂ => TurnsAt prog w A h₀ env target body Q E it s₂) E s := by
  have hol := (N _ hl).1
  have hls : s.heap.IsList l vs.toArray := ⟨_, hol, hc, nn, hd⟩
  have hlt : l < s.heap.objs.size := Heap.lt_size hol
  have hne : l ≠ s.heap.objs.size := Nat.ne_of_lt hlt
  refine wpAny_pyIter_list hls ?_
  have W : KTurns prog w A target s.heap.objs.size [s.heap.objs.size, l] [s.heap.objs.size] vs.toArray.size (fun i v _ => vs.toArray[i]? = some v) _ _ :=
    KTurns.ofWalks (Walks.list (prog := prog) (w := w) (A := A) hh s.heap.objs.size l hne vs.toArray) fun i v s' Q' E' st hq => letGo_listiter st.1 hq
  have hL0 : env.locals < s.heap.objs.size := F.ns.lt
  refine turns_core (keep := [(l, lo)]) J W ?_ ?_ (next_is_new F) (fun p hp => Nat.ne_of_lt (Heap.lt_size (N p hp).1)) ⟨⟨_, Heap.get?_push_size _ rfl, rfl, rfl⟩, ?_⟩ (fun i h st => ?_) (F.push _) (fun p hp => ⟨Heap.get?_push_of_some _ (N p hp).1, (N p hp).2⟩) (fun p hp => by rw [List.mem_singleton.mp hp]; exact hl) hj
    (fun i v m₁ news₁ oI h tk _ hP hJ hk ho F₁ N₁ => turn i v m₁ news₁ _ oI h tk (by simpa using hP) hJ (hk _ (List.mem_singleton.mpr rfl)) ho F₁ N₁) fun m' news' h' tk F' N' hk hJ => done m' news' h' tk F' N' (hk _ (List.mem_singleton.mpr rfl)) (by simpa using hJ)
  · intro b hb
    rcases List.mem_cons.mp hb with h | h
    · exact .inl h
    · rw [List.mem_singleton.mp h]; exact .inr (.inl ⟨_, List.mem_singleton.mpr rfl⟩)
  · intro hm
    rcases List.mem_cons.mp hm with e | e
    · exact absurd hL0 (e ▸ Nat.lt_irrefl _)
    · exact (N _ hl).2.1 (List.mem_singleton.mp e).symm
  · exact hls.at fun o e => Heap.get?_push_of_some _ e
  · obtain ⟨o, e, _⟩ := st.1; exact ⟨o, e⟩
end
end Mine
end

section
open PySem PySem.W PySem.Calls PyProof.Rows
namespace Mine
section
variable {prog : Program} {w : World} {A : Around} {E : Value → Shared → Prop} {s : Shared} {env : Env} {h₀ : Heap} {body : List Stmt} {Q : Flow → Shared → Prop}
/-- over an ASCII text's signs -/
theorem iter_str {y : Str} {py : Pos} {x : Str} {t : Tok} {news : List (Addr × Obj)} {m₀ : Str → Option Value} (J : Nat → (Str → Option Value) → List (Addr × Obj) → Prop)
    (hh : A.handled = none) (ha : x.cps.all (· < 128) = true) (F : Fr h₀ env.locals s.heap m₀) (N : News h₀ env.locals s.heap news) (hj : J 0 m₀ news)
    (turn : ∀ i c u m₁ news₁ I oI h tk, x.cps[i]? = some c → J i m₁ news₁ → (∀ p ∈ news₁, p.1 ≠ I) → Fr h₀ env.locals h m₁ → News h₀ env.locals h ((I, oI) :: news₁) →
      wpAny (model prog w) A (assign (.Name y py) env (.str ⟨#[c]⟩ u)) (fun _ s₂ => wpAny (model prog w) A (execs body env) (TEnd h₀ env.locals I oI [] (J (i + 1)) { s with heap := h, toks := tk } Q) E s₂) E { s with heap := h, toks := tk })
    (done : ∀ m' news' h' tk, Fr h₀ env.locals h' m' → News h₀ env.locals h' news' → J x.cps.size m' news' → Q .next { s with heap := h', toks := tk }) :
    wpAny (model prog w) A (pyIter (.str x t)) (fun it s₂ => TurnsAt prog w A h₀ env (.Name y py) body Q E it s₂) E s := by
  refine wpAny_pyIter_ascii ha ?_
  have W : KTurns prog w A (.Name y py) s.heap.objs.size [s.heap.objs.size] [s.heap.objs.size] x.cps.size (fun i v _ => SignAt x i v) _ _ :=
    KTurns.ofWalks (Walks.strAscii (prog := prog) (w := w) (A := A) hh s.heap.objs.size x t) fun i v s' Q' E' st hq => wpAny_pure hq
  have hL0 : env.locals < s.heap.objs.size := F.ns.lt
  refine turns_core (keep := []) J W (fun b hb => .inl (List.mem_singleton.mp hb)) (fun hm => absurd hL0 ((List.mem_singleton.mp hm) ▸ Nat.lt_irrefl _)) (next_is_new F) (fun p hp => Nat.ne_of_lt (Heap.lt_size (N p hp).1)) ⟨_, Heap.get?_push_size _ rfl, rfl, rfl⟩ (fun i h st => ?_) (F.push _) (fun p hp => ⟨Heap.get?_push_of_some _ (N p hp).1, (N p hp).2⟩) (fun _ hp => nomatch hp) hj
    (fun i v m₁ news₁ oI h tk _ hP hJ _ ho F₁ N₁ => ?_) fun m' news' h' tk F' N' _ hJ => done m' news' h' tk F' N' hJ
  · obtain ⟨o, e, _⟩ := st; exact ⟨o, e⟩
  · obtain ⟨c, u, hc, rfl⟩ := hP
    exact turn i c u m₁ news₁ _ oI h tk hc hJ ho F₁ N₁
end

section
variable {prog : Program} {w : World} {A : Around} {E : Value → Shared → Prop} {s : Shared} {h₀ : Heap} {L : Addr} {m : Str → Option Value} {env : Env}
/-- a tuple that stood before the call, or one of the ledger -/
def TupAt (h₀ : Heap) (ax : Addr) (its : Array Value) (news : List (Addr × Obj)) : Prop := IsTup h₀ ax its ∨ ∃ o, (ax, o) ∈ news ∧ o.cls = .type "tuple" ∧ ∃ n, o.data = .seq its n
theorem TupAt.tup {h₀ h : Heap} {L ax : Addr} {its : Array Value} {news : List (Addr × Obj)} (x : TupAt h₀ ax its news) (k : ∀ b o, h₀.get? b = some o → h.get? b = some o) (N : News h₀ L h news) : h.IsTuple ax its := by
  rcases x with ⟨o, e, r⟩ | ⟨o, hm, r⟩
  · exact ⟨o, k _ _ e, r⟩
  · exact ⟨o, (N _ hm).1, r⟩
theorem tup_st {ax I : Addr} {its : Array Value} : ∀ i (h h' : Heap) (o : Obj) (nw : List (Addr × Obj)), (h.IsTupleIter I ax i ∧ h.IsTuple ax its) → h.get? I = some o → h'.get? I = some o → (∀ b o, h₀.get? b = some o → h'.get? b = some o) → News h₀ L h' nw → TupAt h₀ ax its nw → (h'.IsTupleIter I ax i ∧ h'.IsTuple ax its) :=
  fun i h h' o nw st e e' k N S => ⟨by obtain ⟨o', q, r⟩ := st.1; rw [e] at q; cases q; exact ⟨o, e', r⟩, S.tup k N⟩

def SrcTup (prog : Program) (w : World) (A : Around) (h₀ : Heap) (L : Addr) (m : Str → Option Value) (env : Env) (elt : Expr) (x : Str) (scope : Scope) (cl : List (Str × Addr)) (Fin : Shared → List Value → List (Addr × Obj) → Prop) (xv : Value) (s₁ : Shared) : Prop :=
  ∃ ax its news, xv = .ref ax ∧ A.handled = none ∧ Fr h₀ L s₁.heap m ∧ News h₀ L s₁.heap news ∧ TupAt h₀ ax its news ∧ its.size ≤ sizeLine ∧
    ∀ s₂ : Shared, (∃ h, s₂ = { s₁ with heap := h }) → LCg.CompRest prog w A h₀ L m env elt x scope cl s₂ (TupAt h₀ ax its) (fun i v => its[i]? = some v) (Fin s₂) its.size 0 [] news
def SrcTupT (prog : Program) (w : World) (A : Around) (h₀ : Heap) (L : Addr) (m : Str → Option Value) (env : Env) (ct elt : Expr) (x : Str) (scope : Scope) (cl : List (Str × Addr)) (Fin : Shared → List Value → List (Addr × Obj) → Prop) (xv : Value) (s₁ : Shared) : Prop :=
  ∃ ax its news, xv = .ref ax ∧ A.handled = none ∧ Fr h₀ L s₁.heap m ∧ News h₀ L s₁.heap news ∧ TupAt h₀ ax its news ∧ its.size ≤ sizeLine ∧
    ∀ s₂ : Shared, (∃ h, s₂ = { s₁ with heap := h }) → LCt.CompRestT prog w A h₀ L m env ct elt x scope cl s₂ (TupAt h₀ ax its) (fun i v => its[i]? = some v) (Fin s₂) its.size 0 [] news

/-- what a block's scope has to be: no cell of its own, its variable a local, its closure known -/
structure BlockScope (scope : Scope) (env : Env) (cl : List (Str × Addr)) (x : Str) : Prop where
  clos : closureFor scope env = pure cl
  cells : ∀ y ∈ scope.names, y.2 ≠ .cell
  kind : scope.kind = .function
  own : ∀ y ∈ scope.names, y.2 = .local → scope.names.lookup y.1 = some .local
  var : scope.names.lookup x = some .local
abbrev tupIt (ax : Addr) : Obj := { cls := .type "tuple_iterator", data := .fields #[.ref ax, .int 0 0] }
/-- a walk over a tuple has begun: its iterator lies on top, all else stands as it stood -/
structure TupBegun (h₀ H : Heap) (L ax : Addr) (m : Str → Option Value) (its : Array Value) (news : List (Addr × Obj)) : Prop where
  ne : ax ≠ H.objs.size
  st : (H.push (tupIt ax)).IsTupleIter H.objs.size ax 0 ∧ (H.push (tupIt ax)).IsTuple ax its
  low : ∀ b ∈ [H.objs.size, ax], b < (H.push (tupIt ax)).objs.size
  F : Fr h₀ L (H.push (tupIt ax)) m
  N : News h₀ L (H.push (tupIt ax)) news
  off : ∀ p ∈ news, p.1 ≠ H.objs.size
theorem tup_begun {H : Heap} {ax : Addr} {its : Array Value} {news : List (Addr × Obj)} (F : Fr h₀ L H m) (N : News h₀ L H news) (S : TupAt h₀ ax its news) : TupBegun h₀ H L ax m its news :=
  have T := S.tup F.keep N
  have lt : ax < H.objs.size := T.elim fun _ e => Heap.lt_size e.1
  { ne := Nat.ne_of_lt lt
    st := ⟨⟨_, Heap.get?_push_size _ rfl, rfl, rfl⟩, T.push _⟩
    low := by
      rw [Heap.size_push]
      exact List.forall_mem_cons.mpr ⟨Nat.lt_succ_self _, List.forall_mem_cons.mpr ⟨Nat.lt_succ_of_lt lt, fun _ hb => nomatch hb⟩⟩
    F := F.push _
    N := fun p hp => ⟨Heap.get?_push_of_some _ (N p hp).1, (N p hp).2⟩
    off := fun p hp => Nat.ne_of_lt (Heap.lt_size (N p hp).1) }
theorem tup_has {I ax : Addr} {its : Array Value} {i : Nat} {h : Heap} (st : h.IsTupleIter I ax i ∧ h.IsTuple ax its) : ∃ o, h.get? I = some o := st.1.imp fun _ e => e.1
/-- a block's own frame may change or go: the caller's frame and the ledger stand -/
theorem frame_gone {h h' : Heap} {C : Addr} {nw : List (Addr × Obj)} (F : Fr h₀ L h m) (N : News h₀ L h nw) (hs : Heap.SameBut C h h') (hL : C ≠ L) (h0 : h₀.get? C = none) (off : ∀ p ∈ nw, p.1 ≠ C) : Fr h₀ L h' m ∧ News h₀ L h' nw :=
  ⟨F.change hs hL h0, fun p hp => ⟨hs.extBut _ _ (off p hp) (N p hp).1, (N p hp).2⟩⟩
theorem ListComp_tup {elt iter : Expr} {x : Str} {px : Pos} {scope : Scope} {cl : List (Str × Addr)} {pos : Pos} {Q : Value → Shared → Prop} (_F₀ : Fr h₀ L s.heap m) (K : BlockScope scope env cl x)
    (h : wpAny (model prog w) A (eval iter env) (SrcTup prog w A h₀ L m env elt x scope cl (fun s₂ => LCg.FinE h₀ L m s₂ Q)) E s) (unfolded : ∀ v, foldedSetIterable iter env v = pure v := by intro _; rfl) :
    wpAny (model prog w) A (eval (.ListComp elt [⟨.Name x px, iter, [], 0⟩] scope pos) env) Q E s := by
  rw [eval_ListComp]
  refine wpAny_comprehension_free (use := none) rfl unfolded K.clos K.kind K.own (wpAny_mono h ?_ fun _ _ e => e)
  rintro _ s₁ ⟨ax, its, news, rfl, hh, F, N, S, hsz, R⟩
  have B := tup_begun F N S
  refine wpAny_pyIter_tuple (S.tup F.keep N) (LCg.block_U (Walks.tuple hh _ ax B.ne its) hsz (fun _ _ => tup_has) tup_st K.cells K.kind K.var B.st B.low B.F B.N (Nat.ne_of_lt F.ns.lt) (next_is_new F) B.off S (R _ ⟨_, rfl⟩) ?_)
  intro D C h tk mC ys nw F' N' o1 hn hC _ hCL _ hCD off fin
  refine ⟨mC, hn, fun h'' hs => ?_⟩
  have z := frame_gone F' N' hs hCL hC (List.forall_mem_cons.mpr ⟨hCD.symm, off⟩)
  exact fin D h'' tk z.1 z.2 o1

/-- the turns of a block by an invariant -/
theorem rest_inv {elt : Expr} {x : Str} {scope : Scope} {cl : List (Str × Addr)} {S : List (Addr × Obj) → Prop} {P : Nat → Value → Prop} {Fin : List Value → List (Addr × Obj) → Prop} {n : Nat} (J : Nat → List Value → List (Addr × Obj) → Prop)
    (turn : ∀ i v ys news I oI C oC D m₂ h tk (E' : Value → Shared → Prop), i < n → P i v → J i ys news → LCg.NsObj oC m₂ → m₂ x = some v → Fr h₀ L h m → News h₀ L h ((I, oI) :: (C, oC) :: (D, LCg.lst ys) :: news) → LCg.Off3 I C D news → I ≠ C → I ≠ D → C ≠ D →
      wpAny (model prog w) A (eval elt (compEnvC scope cl C env)) (LCg.CompEnd h₀ L m { s with heap := h, toks := tk } I oI C oC D (LCg.lst ys) S (fun y news' => J (i + 1) (ys ++ [y]) news')) E' { s with heap := h, toks := tk })
    (fin : ∀ ys news, J n ys news → Fin ys news) : ∀ k i ys news, i + k = n → J i ys news → LCg.CompRest prog w A h₀ L m env elt x scope cl s S P Fin k i ys news := by
  intro k
  induction k with
  | zero => intro i ys news hi hj; obtain rfl : i = n := by omega
            exact LCg.CompRest.zero (fin _ _ hj)
  | succ k ih =>
    intro i ys news hi hj
    refine LCg.CompRest.succ ?_
    intro v I oI C oC D m₂ h tk E' hv hC hx F N off ne
    refine wpAny_mono (turn i v ys news I oI C oC D m₂ h tk E' (by omega) hv hj hC hx F N off ne.1 ne.2.1 ne.2.2) (fun y s₂ hq => ?_) fun _ _ e => e
    obtain ⟨h', tk', nw, e, F', N', off', hS, hr⟩ := hq
    exact ⟨h', tk', nw, e, F', N', off', hS, ih (i + 1) _ _ (by omega) hr⟩
theorem rest_invT {ct elt : Expr} {x : Str} {scope : Scope} {cl : List (Str × Addr)} {S : List (Addr × Obj) → Prop} {P : Nat → Value → Prop} {Fin : List Value → List (Addr × Obj) → Prop} {n : Nat} (J : Nat → List Value → List (Addr × Obj) → Prop)
    (turn : ∀ i v ys news I oI C oC D m₂ h tk (E' : Value → Shared → Prop), i < n → P i v → J i ys news → LCg.NsObj oC m₂ → m₂ x = some v → Fr h₀ L h m → News h₀ L h ((I, oI) :: (C, oC) :: (D, LCg.lst ys) :: news) → LCg.Off3 I C D news → I ≠ C → I ≠ D → C ≠ D →
      wpAny (model prog w) A (isTrue ct (compEnvC scope cl C env) (eval ct (compEnvC scope cl C env))) (fun b s' => if b = true then
        wpAny (model prog w) A (eval elt (compEnvC scope cl C env)) (LCg.CompEnd h₀ L m { s with heap := h, toks := tk } I oI C oC D (LCg.lst ys) S (fun y news' => J (i + 1) (ys ++ [y]) news')) E' s'
        else LCg.CompEnd h₀ L m { s with heap := h, toks := tk } I oI C oC D (LCg.lst ys) S (fun _ news' => J (i + 1) ys news') Value.none s') E' { s with heap := h, toks := tk })
    (fin : ∀ ys news, J n ys news → Fin ys news) : ∀ k i ys news, i + k = n → J i ys news → LCt.CompRestT prog w A h₀ L m env ct elt x scope cl s S P Fin k i ys news := by
  intro k
  induction k with
  | zero => intro i ys news hi hj; obtain rfl : i = n := by omega
            exact LCt.CompRestT.zero (fin _ _ hj)
  | succ k ih =>
    intro i ys news hi hj
    refine LCt.CompRestT.succ ?_
    intro v I oI C oC D m₂ h tk E' hv hC hx F N off ne
    refine wpAny_mono (turn i v ys news I oI C oC D m₂ h tk E' (by omega) hv hj hC hx F N off ne.1 ne.2.1 ne.2.2) (fun b s₂ hq => ?_) fun _ _ e => e
    cases b with
    | true =>
      simp only [if_true] at hq ⊢
      refine wpAny_mono hq (fun y s₃ hr => ?_) fun _ _ e => e
      obtain ⟨h', tk', nw, e, F', N', off', hS, hr⟩ := hr
      exact ⟨h', tk', nw, e, F', N', off', hS, ih (i + 1) _ _ (by omega) hr⟩
    | false =>
      simp only [Bool.false_eq_true, if_false] at hq ⊢
      obtain ⟨h', tk', nw, e, F', N', off', hS, hr⟩ := hq
      exact ⟨h', tk', nw, e, F', N', off', hS, ih (i + 1) _ _ (by omega) hr⟩
end
end Mine
end

section
open PySem PySem.W PySem.Calls PyProof.Rows
namespace Mine
section
variable {prog : Program} {w : World} {A : Around} {E : Value → Shared → Prop} {s : Shared} {env : Env} {h₀ : Heap} {Q : Flow → Shared → Prop}
/-- the end of a while's turn -/
def WEnd (h₀ : Heap) (L : Addr) (J : Nat → (Str → Option Value) → List (Addr × Obj) → Prop) (n : Nat) (s : Shared) (Q : Flow → Shared → Prop) (f : Flow) (s₃ : Shared) : Prop :=
  match f with
  | .ret v => Q (.ret v) s₃
  | .brk => Q .next s₃
  | _ => ∃ n' h' tk m' news', n' < n ∧ s₃ = { s with heap := h', toks := tk } ∧ Fr h₀ L h' m' ∧ News h₀ L h' news' ∧ J n' m' news'
theorem WEnd.go {h₀ h' : Heap} {L : Addr} {J : Nat → (Str → Option Value) → List (Addr × Obj) → Prop} {n n' tk : Nat} {s : Shared} {Q : Flow → Shared → Prop} {m' : Str → Option Value} {news' : List (Addr × Obj)}
    (F : Fr h₀ L h' m') (N : News h₀ L h' news') (hn : n' < n) (hJ : J n' m' news') : WEnd h₀ L J n s Q .next { s with heap := h', toks := tk } := ⟨n', h', tk, m', news', hn, rfl, F, N, hJ⟩
theorem while_J {test : Expr} {body : List Stmt} {pos : Pos} {m₀ : Str → Option Value} {news₀ : List (Addr × Obj)} {n₀ : Nat} (J : Nat → (Str → Option Value) → List (Addr × Obj) → Prop)
    (F : Fr h₀ env.locals s.heap m₀) (N : News h₀ env.locals s.heap news₀) (hj : J n₀ m₀ news₀)
    (turn : ∀ n m₁ news₁ h tk, J n m₁ news₁ → Fr h₀ env.locals h m₁ → News h₀ env.locals h news₁ →
      wpAny (model prog w) A (isTrue test env (eval test env)) (fun b s₂ => if b = true then wpAny (model prog w) A (execs body env) (WEnd h₀ env.locals J n s Q) E s₂ else Q .next s₂) E { s with heap := h, toks := tk })
    (hE : PassesOwn (model prog w) A env E := by passes_own) : wpAny (model prog w) A (exec (.While test body [] pos) env) Q E s := by
  refine wpAny_While (codeAny_whileLoop (fun n s' => ∃ h tk m₁ news₁, s' = { s with heap := h, toks := tk } ∧ Fr h₀ env.locals h m₁ ∧ News h₀ env.locals h news₁ ∧ J n m₁ news₁) ?_ n₀ ⟨s.heap, s.toks, m₀, news₀, rfl, F, N, hj⟩)
  rintro n s' ⟨h, tk, m₁, news₁, rfl, F₁, N₁, hJ⟩
  refine wpAny_mono (wpAny_passesOwn hE (turn n m₁ news₁ h tk hJ F₁ N₁)) (fun b s₂ hb => ?_) fun _ _ e => e
  cases b with
  | true =>
    simp only [if_true] at hb ⊢
    refine wpAny_mono (wpAny_passesOwn hE hb) (fun f s₃ hf => ?_) fun _ _ e => e
    cases f with
    | ret v => exact hf
    | brk => exact hf
    | next => obtain ⟨n', h', tk', m', news', hn, e, F', N', hJ'⟩ := hf; exact ⟨n', hn, h', tk', m', news', e, F', N', hJ'⟩
    | cont => obtain ⟨n', h', tk', m', news', hn, e, F', N', hJ'⟩ := hf; exact ⟨n', hn, h', tk', m', news', e, F', N', hJ'⟩
  | false =>
    simp only [Bool.false_eq_true, if_false] at hb ⊢
    exact wpAny_execs_nil hb
end
section
variable {prog : Program} {w : World} {A : Around} {E : Value → Shared → Prop} {s : Shared} {h₀ : Heap} {L D b : Addr} {m : Str → Option Value} {rest : List (Addr × Obj)}
/-- a list of the ledger's head takes the items of a tuple that stands -/
theorem extend_tup {xs : List Value} {its2 : Array Value} {n n2 : Nat} {Q : Value → Shared → Prop} (F : Fr h₀ L s.heap m) (N : News h₀ L s.heap ((D, listOf xs.toArray n) :: rest)) (ho : ∀ p ∈ rest, p.1 ≠ D)
    (hb : s.heap.get? b = some ⟨.type "tuple", none, .seq its2 n2, #[]⟩) (hz : xs.length + its2.size ≤ 1000000)
    (h : ∀ h' n', Fr h₀ L h' m → News h₀ L h' ((D, listOf (xs ++ its2.toList).toArray n') :: rest) → Q .none { s with heap := h' }) :
    wpAny (model prog w) A (call (.builtin "list.extend") [.ref D, .ref b]) Q E s := by
  have z := N (D, listOf xs.toArray n) (.head _)
  have hz1 : xs.toArray.size ≤ sizeLine := by rw [List.size_toArray, sizeLine_eq]; omega
  have hz2 : xs.toArray.size + its2.size ≤ sizeLine + 1 := by rw [List.size_toArray, sizeLine_eq]; omega
  have hsz : xs.toArray.size = xs.length := List.size_toArray ..
  have hd : ¬(!xs.toArray.isEmpty && Builtin.List.listTooLong (xs.toArray.size + its2.size)) = true := by
    have e : Builtin.List.listTooLong (xs.toArray.size + its2.size) = false := by
      unfold Builtin.List.listTooLong
      rw [List.size_toArray, sizeLine_eq]
      apply decide_eq_false; omega
    rw [e, Bool.and_false]; exact Bool.false_ne_true
  have U := news_upd (pre := []) (post := rest) (f := Obj.mapSeq fun ys => ys ++ its2) (o' := listOf (xs.toArray ++ its2) (if (xs.toArray ++ its2).size == xs.toArray.size then n else n + 1)) F N (fun _ hp => nomatch hp) ho rfl rfl
  have e2 : xs.toArray ++ its2 = (xs ++ its2.toList).toArray := by apply Array.toList_inj.mp; simp
  have U2 := U.2
  rw [e2, List.nil_append] at U2
  refine call_meets PySem.F.slot_list_extend ⟨_, z.1, rfl⟩ PySem.F.entry_list_extend (PySem.F.args_list_extend_2 _ _) (PySem.AutoSeq1.list_extend_list_tuple_0 D xs.toArray n b its2 n2 hd hz1 hz2) ⟨z.1, hb, h _ _ U.1 U2⟩
theorem pop_last {xs : List Value} {x : Value} {n : Nat} {Q : Value → Shared → Prop} (F : Fr h₀ L s.heap m) (N : News h₀ L s.heap ((D, listOf (xs ++ [x]).toArray n) :: rest)) (ho : ∀ p ∈ rest, p.1 ≠ D) (hz : xs.length ≤ 1000000)
    (h : ∀ h', Fr h₀ L h' m → News h₀ L h' ((D, listOf xs.toArray (n + 1)) :: rest) → Q x { s with heap := h' }) : wpAny (model prog w) A (call (.builtin "list.pop") [.ref D]) Q E s :=
  kl_pop F N (kpa_last x xs) (.head ho) (by simp only [List.length_append, List.length_singleton]; rw [sizeLine_eq]; omega) h
end
theorem strs_snoc : ∀ {xs : List Str} {x : Str} {vs : List Value}, StrsAre vs (xs ++ [x]) → ∃ us t, vs = us ++ [.str x t] ∧ StrsAre us xs
  | [], x, _, .cons _ t .nil => ⟨[], t, rfl, .nil⟩
  | _ :: xs, x, _, .cons y t h => by
    obtain ⟨us, t', rfl, h'⟩ := strs_snoc (xs := xs) h
    exact ⟨.str y t :: us, t', rfl, .cons y t h'⟩
theorem valueAt_mem {K : Type} [DecidableEq K] (kvs : List (K × Value)) (k : K) : (valueAt kvs k).isSome = decide (k ∈ kvs.map (·.1)) := by
  rw [valueAt_isSome_eq_any]
  cases h : kvs.any (fun kv => kv.1 = k) with
  | true =>
    obtain ⟨kv, h1, h2⟩ := List.any_eq_true.mp h
    exact (decide_eq_true (List.mem_map.mpr ⟨kv, h1, of_decide_eq_true h2⟩)).symm
  | false =>
    refine (decide_eq_false fun hm => ?_).symm
    obtain ⟨kv, h1, h2⟩ := List.mem_map.mp hm
    have := List.any_eq_false.mp h kv h1
    exact this (decide_eq_true h2)
theorem stored_new {K : Type} [DecidableEq K] {kvs : List (K × Value)} {k : K} (v : Value) (h : k ∉ kvs.map (·.1)) : stored kvs k v = kvs ++ [(k, v)] := by
  unfold stored
  rw [if_neg]
  intro hc
  obtain ⟨kv, h1, h2⟩ := List.any_eq_true.mp hc
  exact h (List.mem_map.mpr ⟨kv, h1, of_decide_eq_true h2⟩)
theorem bools_map {α : Type} (f : α → Bool) : ∀ xs : List α, LSm.BoolsAre (xs.map fun x => Value.bool (f x)) (xs.map f)
  | [] => .nil
  | x :: xs => .cons (f x) (bools_map f xs)
theorem keysS_of : ∀ {kvs : List (Str × Value)} {C : List Value → Prop}, (∀ vs, StrsAre vs (kvs.map (·.1)) → C vs) → KdlKeysS kvs C
  | [], _, h => h [] .nil
  | q :: _, _, h => fun t => keysS_of fun _ hv => h _ (.cons q.1 t hv)
section
variable {prog : Program} {w : World} {A : Around} {E : Value → Shared → Prop} {s : Shared} {h₀ : Heap} {L d : Addr} {o : Obj} {m : Str → Option Value} {news : List (Addr × Obj)}
theorem list_dict {kvs : List (Str × Value)} {Q : Value → Shared → Prop} (hh : A.handled = none) (F : Fr h₀ L s.heap m) (N : News h₀ L s.heap news) (hp : (d, o) ∈ news) (hd : o.IsDictOf (strKind prog w) kvs) (lo : (d == sysModules) = false) (hn : kvs.length ≤ 16777216)
    (h : ∀ (B : Addr) c h' tk vs, StrsAre vs (kvs.map (·.1)) → Fr h₀ L h' m → News h₀ L h' ((B, listOf vs.toArray c) :: news) → (∀ q ∈ news, q.1 < B) → Q (.ref B) { s with heap := h', toks := tk }) : wpAny (model prog w) A (call (.type "list") [.ref d]) Q E s :=
  kdl_list_keysS hh F N hp hd lo hn fun B c h' tk => keysS_of fun vs hv F' N' l => h B c h' tk vs hv F' N' l
end
abbrev pairObj (k : Str) (t : Tok) (x : Str) (u : Tok) (n : Nat) : Obj := ⟨.type "tuple", none, .seq [Value.str k t, Value.str x u].toArray n, #[]⟩
/-- a list's items are pairs of texts, tuples of the ledger -/
inductive PairsIn (nw : List (Addr × Obj)) : List Value → List (Str × Str) → Prop
  | nil : PairsIn nw [] []
  | cons {a : Addr} {t u : Tok} {n : Nat} {k x : Str} {vs : List Value} {ps : List (Str × Str)} : (a, pairObj k t x u n) ∈ nw → PairsIn nw vs ps → PairsIn nw (.ref a :: vs) ((k, x) :: ps)
theorem PairsIn.mono {nw nw' : List (Addr × Obj)} (hs : ∀ p ∈ nw, p ∈ nw') : ∀ {vs ps}, PairsIn nw vs ps → PairsIn nw' vs ps
  | _, _, .nil => .nil
  | _, _, .cons h r => .cons (hs _ h) (r.mono hs)
theorem PairsIn.length {nw : List (Addr × Obj)} : ∀ {vs ps}, PairsIn nw vs ps → vs.length = ps.length
  | _, _, .nil => rfl
  | _, _, .cons _ r => by rw [List.length_cons, List.length_cons, r.length]
theorem PairsIn.snoc {nw : List (Addr × Obj)} {a : Addr} {t u : Tok} {n : Nat} {k x : Str} (h : (a, pairObj k t x u n) ∈ nw) : ∀ {vs ps}, PairsIn nw vs ps → PairsIn nw (vs ++ [.ref a]) (ps ++ [(k, x)])
  | _, _, .nil => .cons h .nil
  | _, _, .cons h' r => .cons h' (r.snoc h)
theorem allLt_all {d : Addr} {l : List (Addr × Obj)} : AllLt d l → ∀ p ∈ l, p.1 < d := by
  induction l with
  | nil => intro _ p hp; exact absurd hp (by simp)
  | cons a l ih =>
    intro h p hp
    rcases List.mem_cons.mp hp with e | hp
    · rw [e]; exact h.1
    · exact ih h.2 p hp
def AtEnd (R : Shared → Prop) (f : Flow) (s' : Shared) : Prop := f = .next ∧ R s'
def haltT {α : Type} (t : Sem α) : Sem α := t
theorem halt {α : Type} {M : Model} {A : Around} {t : Sem α} {Q : α → Shared → Prop} {E : Value → Shared → Prop} {s : Shared} (h : wpAny M A (haltT t) Q E s) : wpAny M A t Q E s := h
theorem unhalt {α : Type} {M : Model} {A : Around} {t : Sem α} {Q : α → Shared → Prop} {E : Value → Shared → Prop} {s : Shared} (h : wpAny M A t Q E s) : wpAny M A (haltT t) Q E s := h
end Mine
end

section
open PySem PySem.W PyProof.Rows
namespace Mine
example : Here PySem.Challenge.rw_nt0256_01 hd.heap_39 True := by
  k_fill
  exact here_of trivial
def rowVal (x : Str) : Value := match rowsD.findIdx? (fun r => r.1 == x) with
  | some i => .ref (16 + 2 * i)
  | none => .none
theorem rowVal_some {x : Str} {i : Nat} {r : Str × List Str × Str} (h : rowsD[i]? = some r) (hx : (r.1 == x) = true) (hb : ∀ (j : Nat) (r' : Str × List Str × Str), j < i → rowsD[j]? = some r' → (r'.1 == x) = false) : rowVal x = .ref (16 + 2 * i) := by
  unfold rowVal
  have : rowsD.findIdx? (fun r => r.1 == x) = some i := by
    rw [List.findIdx?_eq_some_iff_getElem]
    obtain ⟨hi, e⟩ := List.getElem?_eq_some_iff.mp h
    refine ⟨hi, by rw [e]; exact hx, fun j hj => ?_⟩
    have := hb j rowsD[j] hj (List.getElem?_eq_getElem (by omega))
    rw [this]; exact Bool.false_ne_true
  rw [this]
theorem rowVal_none {x : Str} (hb : ∀ (j : Nat) (r' : Str × List Str × Str), rowsD[j]? = some r' → (r'.1 == x) = false) : rowVal x = .none := by
  unfold rowVal
  have : rowsD.findIdx? (fun r => r.1 == x) = none := by
    rw [List.findIdx?_eq_none_iff]
    intro r hr
    obtain ⟨j, hj⟩ := List.getElem?_of_mem hr
    exact hb j r hj
  rw [this]
set_option maxRecDepth 100000
set_option maxHeartbeats 4000000
theorem row_of_c (w : World) (x : Str) (t : Tok) (news : List (Addr × Obj)) : Ctr w 70 [.str x t] news 2 10 (fun r nw => nw = news ∧ r = rowVal x) := by
  unfold Ctr
  intro p loose mean mg mb dp un gd cn cs a ccd cl outer A₀ base h₀ L m s Q E B F X N T hk hd hu hret
  refine wpAny_call ?_
  k_dflt ktr_enter
  rename_i g L' h₁ FG F' N' B' X' T'
  obtain ⟨n61, h61⟩ := rows_tup w
  refine wpAny_execs_cons ?_
  refine For_turns F' ?_
  walk1
  refine iter_tup (its := (List.toArray ((List.range 23).map fun i => Value.ref (16 + 2 * i)))) (fun i m nx => m "name" = some (.str x t) ∧ nx = news ∧ ∀ j r', j < i → rowsD[j]? = some r' → (r'.1 == x) = false) rfl (tupK X' h61) F' N' ⟨rfl, rfl, fun j _ hj => absurd hj (Nat.not_lt_zero _)⟩ ?_ ?_
  · rintro i v m₁ news₁ I oI h tk hv ⟨hn, rfl, hb⟩ ho F₁ N₁
    have hi : i < 23 := by
      have := (Array.getElem?_eq_some_iff.mp hv).1
      simpa using this
    have hv' : v = .ref (16 + 2 * i) := by
      simp only [List.getElem?_toArray, List.getElem?_map, List.getElem?_range hi, Option.map_some, Option.some.injEq] at hv
      exact hv.symm
    subst hv'
    obtain ⟨r, hr⟩ : ∃ r, rowsD[i]? = some r := ⟨rowsD[i]'(by rw [rows_len]; exact hi), List.getElem?_eq_getElem _⟩
    obtain ⟨⟨t1, u1, n1, hrow⟩, _⟩ := rowIn w i r hr
    refine wpAny_assign_Name (stN F₁ N₁ (fun h₂ F₂ N₂ => ?_))
    refine wpAny_execs_cons (wpAny_If (wpAny_isTrue_Compare1 ?_))
    refine Subscript_ (ld F₂ (if_pos rfl) (wpAny_Constant_int ?_))
    refine item_tupleT (l := [.str r.1 t1, .ref (15 + 2 * i), .str r.2.2 u1]) (j := 0) (tupK (X'.keeps F₂.keep) hrow) (by decide) (by decide) rfl rfl ?_ (by with_unfolding_all rfl)
    refine ld F₂ ((if_neg (by decide)).trans hn) ?_
    refine eq_str ?_
    refine wpAny_truthy_bool ?_
    cases hx : r.1 == x with
    | true =>
      simp only [if_true]
      refine wpAny_execs_cons (wpAny_Return_some (ld F₂ (if_pos rfl) ?_))
      dsimp only [TEnd]
      exact leaveK_ F₂ (fun p hp => N₂ p (.tail _ hp)) fun kF kN => hret _ _ _ _ kF kN ⟨rfl, (rowVal_some hr hx hb).symm⟩
    | false =>
      simp only [Bool.false_eq_true, if_false]
      refine wpAny_execs_nil (wpAny_execs_nil ?_)
      refine TEnd.go F₂ N₂ ho (fun _ hp => nomatch hp) ⟨(if_neg (by decide)).trans hn, rfl, fun j r' hj hr' => ?_⟩
      by_cases hji : j = i
      · subst hji; rw [hr] at hr'; cases hr'; exact hx
      · exact hb j r' (by omega) hr'
  · rintro m' news' h' tk F₁ N₁ ⟨hn, rfl, hb⟩
    refine wpAny_execs_cons (wpAny_Return_some ?_)
    walk1
    exact leaveK_ F₁ N₁ fun kF kN => hret _ _ _ _ kF kN ⟨rfl, (rowVal_none fun j r' hj => hb j r' (by
      have := (List.getElem?_eq_some_iff.mp hj).1
      rw [rows_len] at this
      simpa using this) hj).symm⟩
end Mine
end

section
open PySem PySem.W PyProof.Rows
set_option maxRecDepth 100000
namespace Mine
def needsOf (k : Str) : List Str := ((rowsD.find? (fun r => r.1 == k)).map (·.2.1)).getD []
theorem kn_nodup : KN.Nodup := by decide +kernel
theorem needs_known : ∀ r ∈ rowsD, ∀ j ∈ r.2.1, j ∈ KN := by decide +kernel
theorem needs_few : ∀ r ∈ rowsD, r.2.1.length ≤ 4 := by decide +kernel
theorem kn_len : KN.length = 23 := by decide +kernel
/-- what the needs reach from some names -/
inductive Cl (xs : List Str) : Str → Prop
  | base {k : Str} : k ∈ xs → k ∈ KN → Cl xs k
  | step {j k : Str} : Cl xs j → k ∈ needsOf j → Cl xs k
theorem mem_kn {k : Str} : k ∈ KN ↔ ∃ (i : Nat) (r : Str × List Str × Str), rowsD[i]? = some r ∧ r.1 = k := by
  unfold KN
  rw [List.mem_map]
  constructor
  · rintro ⟨r, hr, e⟩
    obtain ⟨i, hi⟩ := List.getElem?_of_mem hr
    exact ⟨i, r, hi, e⟩
  · rintro ⟨i, r, hi, e⟩
    exact ⟨r, List.mem_of_getElem? hi, e⟩
theorem row_uniq {i j : Nat} {r q : Str × List Str × Str} (hi : rowsD[i]? = some r) (hj : rowsD[j]? = some q) (e : r.1 = q.1) : i = j := by
  have h1 : KN[i]? = some r.1 := by unfold KN; rw [List.getElem?_map, hi]; rfl
  have h2 : KN[j]? = some r.1 := by unfold KN; rw [List.getElem?_map, hj, e]; rfl
  obtain ⟨a1, b1⟩ := List.getElem?_eq_some_iff.mp h1
  obtain ⟨a2, b2⟩ := List.getElem?_eq_some_iff.mp h2
  have P := List.pairwise_iff_getElem.mp kn_nodup
  rcases Nat.lt_trichotomy i j with h | h | h
  · exact absurd (b1.trans b2.symm) (P i j a1 a2 h)
  · exact h
  · exact absurd (b2.trans b1.symm) (P j i a2 a1 h)
theorem find_row {i : Nat} {r : Str × List Str × Str} (hi : rowsD[i]? = some r) : rowsD.find? (fun q => q.1 == r.1) = some r := by
  obtain ⟨hlt, e⟩ := List.getElem?_eq_some_iff.mp hi
  rw [List.find?_eq_some_iff_getElem]
  refine ⟨by simp, i, hlt, e, fun j hj => ?_⟩
  have hj' : rowsD[j]? = some rowsD[j] := List.getElem?_eq_getElem (by omega)
  cases h : rowsD[j].1 == r.1 with
  | false => rfl
  | true => exact absurd (row_uniq hj' hi (eq_of_beq h)) (by omega)
theorem needsOf_row {i : Nat} {r : Str × List Str × Str} (hi : rowsD[i]? = some r) : needsOf r.1 = r.2.1 := by
  unfold needsOf; rw [find_row hi]; rfl
theorem needsOf_known {k j : Str} (h : j ∈ needsOf k) : j ∈ KN := by
  unfold needsOf at h
  cases hf : rowsD.find? (fun r => r.1 == k) with
  | none => rw [hf] at h; exact absurd h (by simp)
  | some r => rw [hf] at h; exact needs_known r (List.mem_of_find?_eq_some hf) j h
theorem Cl.known {xs : List Str} {k : Str} (h : Cl xs k) : k ∈ KN := by
  cases h with
  | base _ h => exact h
  | step _ h => exact needsOf_known h
theorem Cl.least {xs : List Str} {S : Str → Prop} (h0 : ∀ x ∈ xs, x ∈ KN → S x) (h1 : ∀ k j, S k → j ∈ needsOf k → S j) {k : Str} (h : Cl xs k) : S k := by
  induction h with
  | base a b => exact h0 _ a b
  | step _ b ih => exact h1 _ _ ih b
theorem rowVal_cases (x : Str) : (x ∉ KN ∧ rowVal x = .none) ∨ ∃ (i : Nat) (r : Str × List Str × Str), rowsD[i]? = some r ∧ r.1 = x ∧ rowVal x = .ref (16 + 2 * i) := by
  by_cases h : x ∈ KN
  · obtain ⟨i, r, hi, rfl⟩ := mem_kn.mp h
    refine .inr ⟨i, r, hi, rfl, rowVal_some hi (by simp) fun j r' hj hr' => ?_⟩
    cases hb : r'.1 == r.1 with
    | false => rfl
    | true => exact absurd (row_uniq hr' hi (eq_of_beq hb)) (by omega)
  · refine .inl ⟨h, rowVal_none fun j r' hj => ?_⟩
    cases hb : r'.1 == x with
    | false => rfl
    | true => exact absurd (mem_kn.mpr ⟨j, r', hj, eq_of_beq hb⟩) h

/-- what holds between the turns of with_needs -/
structure WInv (xs F ws : List Str) (n : Nat) : Prop where
  nodup : F.Nodup
  inF : ∀ k ∈ F, Cl xs k
  inW : ∀ k ∈ ws, k ∈ KN → Cl xs k
  all : ∀ x ∈ xs, x ∈ KN → x ∈ F ∨ x ∈ ws
  shut : ∀ k ∈ F, ∀ j ∈ needsOf k, j ∈ F ∨ j ∈ ws
  meas : n = ws.length + 5 * (23 - F.length)
  few : F.length ≤ 23
  bound : n ≤ 2000
theorem nodup_few {F : List Str} (hn : F.Nodup) (hs : ∀ k ∈ F, k ∈ KN) : F.length ≤ 23 := by
  rw [← kn_len]
  exact List.Nodup.length_le_of_subset hn hs
theorem WInv.start {xs : List Str} (h : xs.length ≤ 1000) : WInv xs [] xs (xs.length + 5 * 23) :=
  ⟨.nil, (fun _ h => nomatch h), (fun k h1 h2 => .base h1 h2), (fun _ h _ => .inr h), (fun _ h => nomatch h), rfl, by simp, by omega⟩
theorem WInv.unknown {xs F ws : List Str} {x : Str} {n : Nat} (I : WInv xs F (ws ++ [x]) n) (hx : x ∉ KN) : WInv xs F ws (ws.length + 5 * (23 - F.length)) ∧ ws.length + 5 * (23 - F.length) < n := by
  have hm := I.meas
  simp only [List.length_append, List.length_singleton] at hm
  have hb := I.bound
  refine ⟨⟨I.nodup, I.inF, fun k h => I.inW k (List.mem_append_left _ h), fun y h1 h2 => ?_, fun k h j hj => ?_, rfl, I.few, by omega⟩, by omega⟩
  · rcases I.all y h1 h2 with h | h
    · exact .inl h
    · rcases List.mem_append.mp h with h | h
      · exact .inr h
      · rw [List.mem_singleton.mp h] at h2; exact absurd h2 hx
  · rcases I.shut k h j hj with h | h
    · exact .inl h
    · rcases List.mem_append.mp h with h | h
      · exact .inr h
      · have := needsOf_known hj
        rw [List.mem_singleton.mp h] at this; exact absurd this hx
theorem WInv.known {xs F ws : List Str} {x : Str} {n : Nat} (I : WInv xs F (ws ++ [x]) n) (hx : x ∈ F) : WInv xs F ws (ws.length + 5 * (23 - F.length)) ∧ ws.length + 5 * (23 - F.length) < n := by
  have hm := I.meas
  simp only [List.length_append, List.length_singleton] at hm
  have hb := I.bound
  refine ⟨⟨I.nodup, I.inF, fun k h => I.inW k (List.mem_append_left _ h), fun y h1 h2 => ?_, fun k h j hj => ?_, rfl, I.few, by omega⟩, by omega⟩
  · rcases I.all y h1 h2 with h | h
    · exact .inl h
    · rcases List.mem_append.mp h with h | h
      · exact .inr h
      · rw [List.mem_singleton.mp h]; exact .inl hx
  · rcases I.shut k h j hj with h | h
    · exact .inl h
    · rcases List.mem_append.mp h with h | h
      · exact .inr h
      · rw [List.mem_singleton.mp h]; exact .inl hx
theorem WInv.put {xs F ws : List Str} {n i : Nat} {r : Str × List Str × Str} (hr : rowsD[i]? = some r) (I : WInv xs F (ws ++ [r.1]) n) (hx : r.1 ∉ F) :
    WInv xs (F ++ [r.1]) (ws ++ r.2.1) ((ws ++ r.2.1).length + 5 * (23 - (F ++ [r.1]).length)) ∧ (ws ++ r.2.1).length + 5 * (23 - (F ++ [r.1]).length) < n := by
  have hm := I.meas
  have hb := I.bound
  have hk : r.1 ∈ KN := mem_kn.mpr ⟨i, r, hr, rfl⟩
  have hc : Cl xs r.1 := I.inW _ (List.mem_append_right _ (List.mem_singleton.mpr rfl)) hk
  have hnd : (F ++ [r.1]).Nodup := by
    rw [List.nodup_append]
    exact ⟨I.nodup, by simp, fun a ha b hb e => hx (by rw [List.mem_singleton.mp hb] at e; exact e ▸ ha)⟩
  have hF : ∀ k ∈ F ++ [r.1], Cl xs k := fun k h => (List.mem_append.mp h).elim (I.inF k) fun h => by rw [List.mem_singleton.mp h]; exact hc
  have hfew := nodup_few hnd fun k h => (hF k h).known
  have h4 := needs_few r (List.mem_of_getElem? hr)
  have hno := needsOf_row hr
  simp only [List.length_append, List.length_singleton] at hm hfew ⊢
  refine ⟨⟨hnd, hF, fun k h hkn => ?_, fun y h1 h2 => ?_, fun k h j hj => ?_, by simp only [List.length_append, List.length_singleton], by simp only [List.length_append, List.length_singleton]; omega, by omega⟩, by omega⟩
  · rcases List.mem_append.mp h with h | h
    · exact I.inW k (List.mem_append_left _ h) hkn
    · exact .step hc (by rw [hno]; exact h)
  · rcases I.all y h1 h2 with h | h
    · exact .inl (List.mem_append_left _ h)
    · rcases List.mem_append.mp h with h | h
      · exact .inr (List.mem_append_left _ h)
      · exact .inl (List.mem_append_right _ h)
  · rcases List.mem_append.mp h with h | h
    · rcases I.shut k h j hj with h | h
      · exact .inl (List.mem_append_left _ h)
      · rcases List.mem_append.mp h with h | h
        · exact .inr (List.mem_append_left _ h)
        · exact .inl (List.mem_append_right _ h)
    · rw [List.mem_singleton.mp h, hno] at hj
      exact .inr (List.mem_append_right _ hj)
def windL : List Str := ["dynamic-wind", "with-input-from-file", "with-output-to-file"]
def takeL : List Str := [cwcc, "call/cc"]
/-- what is asked winds and takes a continuation -/
def Wnd (xs : List Str) : Prop := (∃ k ∈ windL, Cl xs k) ∧ ∃ k ∈ takeL, Cl xs k
open Classical in
noncomputable def xsW (xs : List Str) : List Str := if Wnd xs then xs ++ [wcc] else xs
/-- what is told -/
def Told1 (xs : List Str) (k : Str) : Prop := Cl (xsW xs) k
theorem cl_append {xs ys : List Str} {k : Str} : Cl (xs ++ ys) k ↔ Cl xs k ∨ Cl ys k := by
  constructor
  · intro h
    induction h with
    | base a b =>
      rcases List.mem_append.mp a with a | a
      · exact .inl (.base a b)
      · exact .inr (.base a b)
    | step _ b ih => exact ih.imp (fun h => .step h b) fun h => .step h b
  · rintro (h | h)
    · exact Cl.least (S := Cl (xs ++ ys)) (fun x h1 h2 => .base (List.mem_append_left _ h1) h2) (fun k j h1 h2 => .step h1 h2) h
    · exact Cl.least (S := Cl (xs ++ ys)) (fun x h1 h2 => .base (List.mem_append_right _ h1) h2) (fun k j h1 h2 => .step h1 h2) h
theorem cl_keys {xs ks : List Str} (h : ∀ k, k ∈ ks ↔ Cl xs k) (k : Str) : Cl ks k ↔ Cl xs k := by
  constructor
  · exact Cl.least (S := Cl xs) (fun x h1 _ => (h x).mp h1) fun k j h1 h2 => .step h1 h2
  · intro hk; exact .base ((h k).mpr hk) hk.known
theorem told_wound {xs ks : List Str} (h : ∀ k, k ∈ ks ↔ Cl xs k) (hw : Wnd xs) (k : Str) : Cl (ks ++ [wcc]) k ↔ Told1 xs k := by
  unfold Told1 xsW
  rw [if_pos hw, cl_append, cl_append, cl_keys h]
theorem told_plain {xs : List Str} (hw : ¬ Wnd xs) (k : Str) : Cl xs k ↔ Told1 xs k := by
  unfold Told1 xsW
  rw [if_neg hw]
theorem any_keys {xs ks l : List Str} (h : ∀ k, k ∈ ks ↔ Cl xs k) : (l.any fun x => decide (x ∈ ks)) = true ↔ ∃ k ∈ l, Cl xs k := by
  rw [List.any_eq_true]
  constructor
  · rintro ⟨k, h1, h2⟩; exact ⟨k, h1, (h k).mp (of_decide_eq_true h2)⟩
  · rintro ⟨k, h1, h2⟩; exact ⟨k, h1, decide_eq_true ((h k).mpr h2)⟩
open Classical in
noncomputable def inTold (xs : List Str) (k : Str) : Bool := decide (Told1 xs k)
open Classical in
noncomputable def textW (xs : List Str) (r : Str × List Str × Str) : Str := if r.1 = cwcc ∧ Told1 xs wcc then woundD else r.2.2
theorem textW_plain {xs : List Str} {r : Str × List Str × Str} (h : ¬ (r.1 = cwcc ∧ Told1 xs wcc)) : textW xs r = r.2.2 := by classical exact if_neg h
theorem textW_wound {xs : List Str} {r : Str × List Str × Str} (h : r.1 = cwcc ∧ Told1 xs wcc) : textW xs r = woundD := by classical exact if_pos h
/-- what prelude_for tells of the first i rows -/
noncomputable def toldN (xs : List Str) (i : Nat) : List (Str × Str) := ((rowsD.take i).filter fun r => inTold xs r.1).map fun r => (r.1, textW xs r)
noncomputable def toldL (xs : List Str) : List (Str × Str) := toldN xs 23
theorem inTold_iff {xs : List Str} {k : Str} : inTold xs k = true ↔ Told1 xs k := by classical exact decide_eq_true_iff
theorem toldN_no {xs : List Str} {i : Nat} {r : Str × List Str × Str} (hr : rowsD[i]? = some r) (h : ¬ Told1 xs r.1) : toldN xs (i + 1) = toldN xs i := by
  have e : ¬ inTold xs r.1 = true := fun q => h (inTold_iff.mp q)
  unfold toldN
  rw [List.take_add_one, hr, Option.toList_some, List.filter_append, List.filter_cons_of_neg (p := fun r : Str × List Str × Str => inTold xs r.1) e, List.filter_nil, List.append_nil]
theorem toldN_yes {xs : List Str} {i : Nat} {r : Str × List Str × Str} (hr : rowsD[i]? = some r) (h : Told1 xs r.1) : toldN xs (i + 1) = toldN xs i ++ [(r.1, textW xs r)] := by
  have e : inTold xs r.1 = true := inTold_iff.mpr h
  unfold toldN
  rw [List.take_add_one, hr, Option.toList_some, List.filter_append, List.filter_cons_of_pos (p := fun r : Str × List Str × Str => inTold xs r.1) e, List.filter_nil, List.map_append]
  rfl
theorem toldN_len (xs : List Str) (i : Nat) : (toldN xs i).length ≤ 23 := by
  unfold toldN
  rw [List.length_map, ← rows_len]
  exact Nat.le_trans (List.length_filter_le _ _) (List.length_take_le' _ _)
theorem WInv.done {xs F : List Str} {n : Nat} (I : WInv xs F [] n) (k : Str) : k ∈ F ↔ Cl xs k := by
  refine ⟨I.inF k, Cl.least (S := fun k => k ∈ F) (fun x h1 h2 => (I.all x h1 h2).resolve_right (by simp)) fun k j h hj => (I.shut k h j hj).resolve_right (by simp)⟩
end Mine
end

section
open PySem PySem.W PyProof.Rows
namespace Mine
local macro_rules | `(tactic| walk_at "exec While Compare cons nil") => `(tactic| refine halt ?_)
local macro_rules | `(tactic| walk_at "compareOp NotIn str ref") => `(tactic| refine halt ?_)
local macro_rules | `(tactic| walk_at "setItem ref str") => `(tactic| refine halt ?_)
local macro_rules | `(tactic| walk_at "subscriptTail Name Constant ref int") => `(tactic| refine halt ?_)
local macro_rules | `(tactic| walk_at "call ref") => `(tactic| refine halt ?_)
local macro_rules | `(tactic| walk_at "call builtin:list.pop") => `(tactic| refine halt ?_)
local macro_rules | `(tactic| walk_at "call builtin:list.extend") => `(tactic| refine halt ?_)
local macro_rules | `(tactic| walk_at "eval Name") => `(tactic| (k_here; k_dflt (refine' ld ?k1 ?k2 ?_; (case k1 => k_asm); (case k2 => ((try dsimp only); (repeat (refine (if_neg (by decide)).trans ?_)); first | exact if_pos rfl | assumption)); k_whole)))
example : Here PySem.Challenge.rw_nt0256_01 hd.heap_39 True := by
  k_fill
  exact here_of trivial
set_option maxRecDepth 100000
set_option maxHeartbeats 4000000
theorem with_needs_c (w : World) (l : Addr) (vs : List Value) (xs : List Str) (n : Nat) (news : List (Addr × Obj)) (hl : (l, listOf vs.toArray n) ∈ news) (hx : StrsAre vs xs) (hlen : xs.length ≤ 1000) :
    Ctr w 82 [.ref l] news 10 50 (fun r nw => ∃ d o kvs, r = .ref d ∧ nw = (d, o) :: news ∧ (∀ p ∈ news, p.1 < d) ∧ (d == sysModules) = false ∧ o.IsDictOf (strKind PG w) kvs ∧ ∀ k, k ∈ kvs.map (·.1) ↔ Cl xs k) := by
  unfold Ctr
  intro p loose mean mg mb dp un gd cn cs a ccd cl outer A₀ base h₀ L m s Q E B F X N T hk hd hu hret
  refine wpAny_call ?_
  k_dflt ktr_enter
  rename_i g L' h₁ FG F' N' B' X' T'
  k_steps
  rename_i d0 hh0 o0 F2 N2 l10 lo0 hs0 fs0 hi0 fi0
  refine list_copyK F2 N2 (N2.isList (List.Mem.tail _ hl)) ?_ (by rw [List.size_toArray, hx.length, sizeLine_eq]; omega)
  intro wl c h2 F3 N3 l3
  k_steps
  refine unhalt ?_
  (rename Fr _ _ _ _ => F4); (rename News _ _ _ _ => N4)
  refine while_J (fun k m nx => ∃ d wl o kvs wvs ws nn, m "found" = some (.ref d) ∧ m "waiting" = some (.ref wl) ∧ nx = (wl, listOf wvs.toArray nn) :: (d, o) :: news ∧ (∀ p ∈ news, p.1 < d) ∧ d < wl ∧ (d == sysModules) = false ∧ o.IsDictOf (strKind PG w) kvs ∧ StrsAre wvs ws ∧ WInv xs (kvs.map (·.1)) ws k)
    F4 (news₀ := (wl, listOf vs.toArray c) :: (d0, o0) :: news) (fun p hp => N4 p (.tail _ hp)) ⟨d0, wl, o0, [], vs, xs, c, rfl, rfl, rfl, l10, l3 _ (.head _), lo0, hs0, hx, WInv.start hlen⟩ ?_
  rintro k m₁ nx h tk ⟨d, wl, o, kvs, wvs, ws, nn, hmf, hmw, rfl, hd0, hdw, lo, hdict, hws, I⟩ F₁ N₁
  k_steps
  have hwl : ws.length ≤ 2000 := by have a := I.meas; have b := I.bound; omega
  (rename Fr _ _ _ _ => F5); (rename News _ _ _ _ => N5)
  refine len_strsA (N5.isList (.head _)) hws (by omega) ?_
  k_steps
  · rename_i hpos
    rcases List.eq_nil_or_concat ws with rfl | ⟨ws', x, rfl⟩
    · simp at hpos
    rw [List.concat_eq_append] at hws I hwl hpos
    obtain ⟨us, tx, rfl, hus⟩ := strs_snoc hws
    refine unhalt ?_
    have hul : us.length ≤ 2000 := by rw [hus.length]; simp only [List.length_append, List.length_singleton] at hwl; omega
    refine pop_last F5 N5 (fun p hp => ?_) (by omega) fun h6 F6 N6 => ?_
    · rcases List.mem_cons.mp hp with rfl | hp
      · exact Nat.ne_of_lt hdw
      · exact Nat.ne_of_lt (Nat.lt_trans (hd0 p hp) hdw)
    k_steps
    refine unhalt ?_
    clear F5 N5 N6 F6
    (rename Fr _ _ _ _ => F7); (rename News _ _ _ _ => N7)
    refine row_of_c w x tx _ p loose mean mg mb (dp + 1) (un + 3) gd _ _ _ _ [] _ _ _ _ _ _ _ _ _ B' F7 X' N7 T' rfl (by omega) (by omega) ?_
    rintro r nw h8 tk8 F8 N8 ⟨rfl, rfl⟩
    rcases rowVal_cases x with ⟨hxk, hrv⟩ | ⟨i, r, hr, rfl, hrv⟩
    · rw [hrv]
      clear F7 N7
      k_steps
      (rename Fr _ _ _ _ => F10); (rename News _ _ _ _ => N10)
      obtain ⟨I1, hlt⟩ := I.unknown hxk
      exact WEnd.go F10 N10 hlt ⟨d, wl, o, kvs, us, ws', nn + 1, (if_neg (by decide)).trans ((if_neg (by decide)).trans hmf), (if_neg (by decide)).trans ((if_neg (by decide)).trans hmw), rfl, hd0, hdw, lo, hdict, hus, I1⟩
    · rw [hrv]
      clear F7 N7
      k_steps
      refine unhalt ?_
      (rename Fr _ _ _ _ => F10); (rename News _ _ _ _ => N10)
      refine kdg_notin N10 (.tail _ (.head _)) hdict lo (strKind_is _ _ _ _) _ (valueAt_mem kvs r.1) ?_
      by_cases hin : r.1 ∈ kvs.map (·.1)
      · rw [decide_eq_true hin, Bool.not_true]
        k_steps
        (rename Fr _ _ _ _ => F11); (rename News _ _ _ _ => N11)
        obtain ⟨I1, hlt⟩ := I.known hin
        exact WEnd.go F11 N11 hlt ⟨d, wl, o, kvs, us, ws', nn + 1, (if_neg (by decide)).trans ((if_neg (by decide)).trans hmf), (if_neg (by decide)).trans ((if_neg (by decide)).trans hmw), rfl, hd0, hdw, lo, hdict, hus, I1⟩
      · rw [decide_eq_false hin, Bool.not_false]
        k_steps
        refine unhalt ?_
        (rename Fr _ _ _ _ => F12); (rename News _ _ _ _ => N12)
        have hkv : kvs.length ≤ 23 := by have := I.few; rwa [List.length_map] at this
        refine kda_set F12 N12 (.tail (Nat.ne_of_gt hdw) (.head fun p hp => Nat.ne_of_lt (hd0 p hp))) hdict (strKind_is _ _ _ _) (by rw [sizeLine_eq]; omega) ?_
        intro h13 o13 F13 N13 hd13
        rw [stored_new _ hin] at hd13
        clear F12 N12
        k_steps
        refine unhalt ?_
        obtain ⟨⟨t1, u1, n1, hrow⟩, ⟨nvs, n2, hneed, hnv⟩⟩ := rowIn w i r hr
        refine item_tupleT (l := [.str r.1 t1, .ref (15 + 2 * i), .str r.2.2 u1]) (j := 1) (tupK (X'.keeps F13.keep) hrow) (by decide) (by decide) rfl rfl ?_ (by with_unfolding_all rfl)
        k_steps
        refine unhalt ?_
        have hnl : nvs.length ≤ 4 := by rw [hnv.length]; exact needs_few r (List.mem_of_getElem? hr)
        refine extend_tup (xs := us) (its2 := nvs.toArray) F13 N13 (fun p hp => ?_) ((X'.keeps F13.keep) _ _ hneed) (by rw [List.size_toArray]; omega) fun h14 n14 F14 N14 => ?_
        · rcases List.mem_cons.mp hp with rfl | hp
          · exact Nat.ne_of_lt hdw
          · exact Nat.ne_of_lt (Nat.lt_trans (hd0 p hp) hdw)
        clear F13 N13
        k_steps
        (rename Fr _ _ _ _ => F15); (rename News _ _ _ _ => N15)
        obtain ⟨I1, hlt⟩ := I.put hr hin
        exact WEnd.go F15 N15 hlt ⟨d, wl, o13, kvs ++ [(r.1, _)], us ++ nvs, ws' ++ r.2.1, n14, (if_neg (by decide)).trans ((if_neg (by decide)).trans hmf), (if_neg (by decide)).trans ((if_neg (by decide)).trans hmw), rfl, hd0, hdw, lo, hd13, StrsAre.append' hus hnv, by rw [List.map_append]; exact I1⟩
  · (rename Fr _ _ _ _ => F9); (rename News _ _ _ _ => N9)
    have h0 : ws = [] := by
      cases ws with
      | nil => rfl
      | cons a b => exfalso; rename_i hpos; simp at hpos
    subst h0
    exact hret _ _ _ _ F9 (fun p hp => N9 p (.tail _ hp)) ⟨d, o, kvs, rfl, rfl, hd0, lo, hdict, fun k => I.done k⟩
end Mine
end

section
open PySem PySem.W PyProof.Rows
namespace Mine
local macro_rules | `(tactic| ktr_unf) => `(tactic| (refine' code_defC ?k1 ?k2 ?k3 ?k4 ?k5 ?kA ?kF ?kK ?k6 ?k7 ?k8 ?k9 ?kB ?kD ?_ ?c2 ?c3 ?c4; (case kA => exact rfl); (case kF => exact rfl); (case kK => assumption); (case k1 => k_asm); (case k2 => k_asm); (case k3 => k_asm); (case k4 => k_asm); (case k5 => k_asm); (case k6 => k_is); (case k7 => k_is); (case k8 => ktr_room); (case k9 => exact BindsTo.of_eq rfl); (case kB => exact rfl); (case kD => decide +kernel); (case c2 => exact rfl); (case c3 => exact rfl); (case c4 => exact rfl); k_whole; intro g' L' h' tk' cells' FG' F' N' Y' B' X' T' l1; k_cells Y'; (try simp only [List.cons_append, List.nil_append] at N'); (try dsimp only); (try k_fold)))
local macro_rules | `(tactic| walk_at "eval Name") => `(tactic| (k_here; k_dflt (refine' ld ?k1 ?k2 ?_; (case k1 => k_asm); (case k2 => ((try dsimp only); (repeat (refine (if_neg (by decide)).trans ?_)); first | exact if_pos rfl | assumption)); k_whole)))
local macro_rules | `(tactic| walk_at "compareOp In str ref") => `(tactic| refine halt ?_)
local macro_rules | `(tactic| walk_at "call builtin:any") => `(tactic| refine halt ?_)
local macro_rules | `(tactic| walk_at "eval ListComp") => `(tactic| refine halt ?_)
example : Here PySem.Challenge.rw_nt0256_01 hd.heap_39 True := by
  k_fill
  exact here_of trivial
set_option maxRecDepth 100000
set_option maxHeartbeats 4000000
theorem is_winding_c (w : World) (d : Addr) (o : Obj) (kvs : List (Str × Value)) (news : List (Addr × Obj)) (hm : (d, o) ∈ news) (lo : (d == sysModules) = false) (hdict : o.IsDictOf (strKind PG w) kvs) :
    Ctr w 87 [.ref d] news 10 50 (fun r nw => nw = news ∧ r = .bool (windL.any fun x => decide (x ∈ kvs.map (·.1)))) := by
  unfold Ctr
  intro p loose mean mg mb dp un gd cn cs a ccd cl outer A₀ base h₀ L m s Q E B F X N T hk hd hu hret
  refine wpAny_call ?_
  k_dflt ktr_unf
  rename_i g L' h₁ tk1 FG F' B' X' T' l1 o1 d1 N'
  have hcell : o1.data = .cell (some (.ref d)) := d1
  clear d1
  k_steps
  refine unhalt ?_
  obtain ⟨n62, vs, h62, hS⟩ : ∃ n vs, ((Mine.hd.heap_39 w.params)).lookup 62 = some ⟨.type "tuple", none, .seq (List.toArray vs) n, #[]⟩ ∧ StrsAre vs windL := ⟨_, _, rfl, by repeat' constructor⟩
  refine ListComp_tup F' (cl := [("names", L' + 1)]) ⟨by with_unfolding_all rfl, by decide, by rfl, by decide, by rfl⟩ ?_
  walk1
  refine ⟨62, vs.toArray, (L' + 1, o1) :: news, rfl, rfl, F', N', .inl (tupK X' h62), by rw [List.size_toArray, hS.length, sizeLine_eq]; decide, ?_⟩
  rintro s₂ ⟨h2, rfl⟩
  refine rest_inv (fun i ys nw => nw = (L' + 1, o1) :: news ∧ ys = (windL.take i).map fun x => .bool (decide (x ∈ kvs.map (·.1)))) ?_ ?_ _ 0 [] _ (Nat.zero_add _) ⟨rfl, rfl⟩
  · rintro i v ys nw I oI C oC D m₂ h tk E' hi hv ⟨rfl, rfl⟩ hC hx F N off n1 n2 n3
    obtain ⟨x, t, rfl, hxi⟩ := hS.item i v (by simpa using hv)
    k_steps
    refine unhalt ?_
    refine kda_in N (.tail _ (.tail _ (.tail _ (.tail _ hm)))) hdict lo (strKind_is _ _ _ _) _ (valueAt_mem kvs x) ?_
    refine LCg.CompEnd.intro F N _ (fun _ h => h) off (.inl (tupK X' h62)) ⟨rfl, ?_⟩
    rw [List.take_add_one, hxi]
    simp
  · rintro ys nw ⟨rfl, rfl⟩
    unfold LCg.FinE
    intro D h tk F3 N3 o3
    k_steps
    refine unhalt ?_
    refine LSm.any_bools F3 N3 rfl (N3.isList (.head _)) (bools_map _ _) fun h5 tk5 F5 N5 => ?_
    refine leaveK_ F5 (fun p hp => N5 p (.tail _ (.tail _ hp))) fun kF kN => hret _ _ _ _ kF kN ⟨rfl, ?_⟩
    rw [List.size_toArray, hS.length, List.take_length, List.any_map]
    rfl
end Mine
end

section
open PySem PySem.W PyProof.Rows
namespace Mine
/-- a def's call binds these names -/
def BindsA (K : Frag) (f : Addr) (args : List Value) (kw bs : List (Str × Value)) : Prop :=
  ∀ (s : Shared) (fd : FuncData) (oc : Value) (od : Option Addr) (osl : Array (Option Value)), K.lookup f = some ⟨oc, od, .func fd, osl⟩ → BindsTo s fd ⟨args, kw⟩ bs
theorem BindsA.use {K : Frag} {f : Addr} {args : List Value} {kw bs : List (Str × Value)} {s : Shared} {fd : FuncData} {oc : Value} {od : Option Addr} {osl : Array (Option Value)} (h : BindsA K f args kw bs) (e : K.lookup f = some ⟨oc, od, .func fd, osl⟩) : BindsTo s fd ⟨args, kw⟩ bs := h s fd oc od osl e
local macro_rules | `(tactic| ktr_unf) => `(tactic| (refine' code_defC ?k1 ?k2 ?k3 ?k4 ?k5 ?kA ?kF ?kK ?k6 ?k7 ?k8 ?k9 ?kB ?kD ?_ ?c2 ?c3 ?c4; (case kA => exact rfl); (case kF => exact rfl); (case kK => assumption); (case k1 => k_asm); (case k2 => k_asm); (case k3 => k_asm); (case k4 => k_asm); (case k5 => k_asm); (case k6 => k_is); (case k7 => k_is); (case k8 => ktr_room); (case k9 => exact BindsA.use (by assumption) rfl); (case kB => exact rfl); (case kD => decide +kernel); (case c2 => exact rfl); (case c3 => exact rfl); (case c4 => exact rfl); k_whole; intro g' L' h' tk' cells' FG' F' N' Y' B' X' T' l1; k_cells Y'; (try simp only [List.cons_append, List.nil_append] at N'); (try dsimp only); (try k_fold)))
local macro_rules | `(tactic| walk_at "eval Name") => `(tactic| (k_here; k_dflt (refine' nameX_L ?k1 ?k2 ?_; (case k1 => k_asm); (case k2 => ((try dsimp only); (repeat (refine (if_neg (by decide)).trans ?_)); first | exact if_pos rfl | assumption)); k_whole)))
local macro_rules | `(tactic| k_all) => `(tactic| assumption)
local macro_rules | `(tactic| walk_at "call ref") => `(tactic| refine halt ?_)
local macro_rules | `(tactic| walk_at "compareOp In str ref") => `(tactic| refine halt ?_)
local macro_rules | `(tactic| walk_at "call builtin:any") => `(tactic| refine halt ?_)
local macro_rules | `(tactic| walk_at "call type:list") => `(tactic| refine halt ?_)
local macro_rules | `(tactic| walk_at "call builtin:list.append") => `(tactic| refine halt ?_)
local macro_rules | `(tactic| walk_at "binaryOp Add ref ref") => `(tactic| refine halt ?_)
local macro_rules | `(tactic| walk_at "exec If BoolOp cons nil") => `(tactic| refine halt ?_)
local macro_rules | `(tactic| walk_at "eval ListComp") => `(tactic| refine halt ?_)
local macro_rules | `(tactic| walk_at "exec For Tuple Name cons nil") => `(tactic| refine halt ?_)
example : Here PySem.Challenge.rw_nt0256_01 hd.heap_39 True := by
  k_fill
  exact here_of trivial
set_option maxRecDepth 100000
set_option maxHeartbeats 4000000
/-- as Ctr, for a call with named arguments too -/
def CtrK (w : World) (f : Addr) (args : List Value) (kw : List (Str × Value)) (news : List (Addr × Obj)) (D U : Nat) (Post : Value → List (Addr × Obj) → Prop) : Prop :=
  ∀ (p : Program) (loose : List Str) (mean : ExcName → Option Value) (mg mb : Str → Option Value) (dp un : Nat) (gd : Option (List Code)) (cn : Str) (cs : Scope) (a : Addr) (ccd : Value) (cl : List (Str × Addr)) (outer : List Env) (A₀ : Around) (base h₀ : Heap) (L : Addr) (m : Str → Option Value) (s : Shared) (Q E : Value → Shared → Prop),
    Below A₀ base outer h₀ → Fr h₀ L s.heap m → (Mine.hd.heap_39 w.params).In h₀ → News h₀ L s.heap news → Top p loose mean mg mb h₀ → cs.kind = .function → dp + D < recursionLimit → un + U < cLine →
    (∀ r news' h' tk', Fr h₀ L h' m → News h₀ L h' news' → Post r news' → Q r { s with heap := h', toks := tk' }) →
    wpAny (model PG w) (ktrTop dp un gd cn cs L a ccd cl outer) (call (.ref f) args kw) Q E s
def ToldPost (xs : List Str) (news : List (Addr × Obj)) (r : Value) (nw : List (Addr × Obj)) : Prop :=
  ∃ pl rs n tl, r = .ref pl ∧ nw = (pl, listOf rs.toArray n) :: (tl ++ news) ∧ PairsIn tl rs (toldL xs) ∧ (∀ q ∈ news, q.1 < pl) ∧ ∀ p ∈ tl, pl < p.1
theorem prelude_for_a (w : World) (l : Addr) (vs : List Value) (xs : List Str) (n : Nat) (news : List (Addr × Obj)) (hl : (l, listOf vs.toArray n) ∈ news) (hx : StrsAre vs xs) (hlen : xs.length ≤ 500) (args : List Value) (kw : List (Str × Value))
    (hb : BindsA (Mine.hd.heap_39 w.params) 92 args kw [(Str.ofString "names", .ref l)]) :
    CtrK w 92 args kw news 20 100 (ToldPost xs news) := by
  unfold CtrK ToldPost
  intro p loose mean mg mb dp un gd cn cs a ccd cl outer A₀ base h₀ L m s Q E B F X N T hk hd hu hret
  refine wpAny_call ?_
  k_dflt ktr_unf
  rename_i g L' h₁ tk1 FG F' B' X' T' l1 o1 d1 N'
  have hc0 : o1.data = .cell none := d1
  clear d1
  obtain ⟨mF, hmn, F₁⟩ : ∃ mF : Str → Option Value, mF "names" = some (.ref l) ∧ Fr g L' h₁ mF := ⟨_, rfl, F'⟩
  clear F'
  have hnc : ∀ p ∈ news, p.1 ≠ L' + 1 := fun p hp => by have := l1 p hp; exact Nat.ne_of_lt (Nat.lt_succ_of_lt this)
  k_steps
  refine unhalt ?_
  refine with_needs_c w l vs xs n ((L' + 1, o1) :: news) (.tail _ hl) hx (by omega) p loose mean mg mb (dp + 1) (un + 3) gd _ _ _ _ _ _ _ _ _ _ _ _ _ _ B' F₁ X' N' T' rfl (by omega) (by omega) ?_
  rintro r nw h2 tk2 F2 N2 ⟨d, o, kvs, rfl, rfl, hd0, lo, hdict, hcl⟩
  have hcd : L' + 1 < d := hd0 _ (.head _)
  clear F₁ N'
  k_steps
  refine storeX_C F2 N2 (c := L' + 1) (o := o1) rfl (.tail (Nat.ne_of_gt hcd) (.head hnc)) hc0 ?_ rfl rfl
  intro h3 o3 F3 N3 hc3
  clear F2 N2 hc0
  k_steps
  refine unhalt ?_
  refine wpAny_mono (Q := AtEnd fun s' => ∃ h tk d o kvs oc, s' = { s with heap := h, toks := tk } ∧ Fr g L' h mF ∧ News g L' h ((d, o) :: (L' + 1, oc) :: news) ∧ (∀ p ∈ news, p.1 < d) ∧ L' + 1 < d ∧ (d == sysModules) = false ∧ o.IsDictOf (strKind PG w) kvs ∧ oc.data = .cell (some (.ref d)) ∧ ∀ k, k ∈ kvs.map (·.1) ↔ Told1 xs k) ?_ ?_ fun _ _ e => e
  · refine wpAny_If ?_
    k_steps
    refine unhalt ?_
    refine is_winding_c w d o kvs _ (.head _) lo hdict p loose mean mg mb (dp + 1) (un + 3) gd _ _ _ _ _ _ _ _ _ _ _ _ _ _ B' F3 X' N3 T' rfl (by omega) (by omega) ?_
    rintro r nw h5 tk5 F5 N5 ⟨rfl, rfl⟩
    clear F3 N3
    cases hb : windL.any fun x => decide (x ∈ kvs.map (·.1)) with
    | false =>
      k_steps
      have hnw : ¬ Wnd xs := fun hw => by rw [(any_keys hcl).mpr hw.1] at hb; cases hb
      exact ⟨rfl, _, _, d, o, kvs, o3, rfl, F5, N5, fun p hp => hd0 p (.tail _ hp), hcd, lo, hdict, hc3, fun k => (hcl k).trans (told_plain hnw k)⟩
    | true =>
      k_steps
      refine unhalt ?_
      obtain ⟨n63, us, h63, hS⟩ : ∃ n vs, ((Mine.hd.heap_39 w.params)).lookup 63 = some ⟨.type "tuple", none, .seq (List.toArray vs) n, #[]⟩ ∧ StrsAre vs takeL := ⟨_, _, rfl, by repeat' constructor⟩
      refine ListComp_tup F5 (cl := [("found", L' + 1)]) ⟨by with_unfolding_all rfl, by decide, by rfl, by decide, by rfl⟩ ?_
      walk1
      refine ⟨63, us.toArray, (d, o) :: (L' + 1, o3) :: news, rfl, rfl, F5, N5, .inl (tupK X' h63), by rw [List.size_toArray, hS.length, sizeLine_eq]; decide, ?_⟩
      rintro s₂ ⟨h6, rfl⟩
      refine rest_inv (fun i ys nw => nw = (d, o) :: (L' + 1, o3) :: news ∧ ys = (takeL.take i).map fun x => .bool (decide (x ∈ kvs.map (·.1)))) ?_ ?_ _ 0 [] _ (Nat.zero_add _) ⟨rfl, rfl⟩
      · rintro i v ys nw I oI C oC D m₂ h tk E' hi hv ⟨rfl, rfl⟩ hC hx F N off n1 n2 n3
        obtain ⟨x, t, rfl, hxi⟩ := hS.item i v (by simpa using hv)
        k_steps
        refine unhalt ?_
        refine kda_in N (.tail _ (.tail _ (.tail _ (.head _)))) hdict lo (strKind_is _ _ _ _) _ (valueAt_mem kvs x) ?_
        refine LCg.CompEnd.intro F N _ (fun _ h => h) off (.inl (tupK X' h63)) ⟨rfl, ?_⟩
        rw [List.take_add_one, hxi]
        simp
      · rintro ys nw ⟨rfl, rfl⟩
        rw [List.size_toArray, hS.length, List.take_length]
        unfold LCg.FinE
        intro D h tk F7 N7 o7
        k_steps
        refine unhalt ?_
        refine LSm.any_bools F7 N7 rfl (N7.isList (.head _)) (bools_map _ _) fun h8 tk8 F8 N8 => ?_
        rw [List.any_map]
        replace N8 : News g L' h8 ((d, o) :: (L' + 1, o3) :: news) := fun p hp => N8 p (.tail _ hp)
        clear F7 N7 F5 N5
        cases hb2 : takeL.any fun x => decide (x ∈ kvs.map (·.1)) with
        | false =>
          rw [show takeL.any (id ∘ fun x => decide (x ∈ kvs.map (·.1))) = false from hb2]
          k_steps
          have hnw : ¬ Wnd xs := fun hw => by rw [(any_keys hcl).mpr hw.2] at hb2; cases hb2
          exact ⟨rfl, _, _, d, o, kvs, o3, rfl, F8, N8, fun p hp => hd0 p (.tail _ hp), hcd, lo, hdict, hc3, fun k => (hcl k).trans (told_plain hnw k)⟩
        | true =>
          rw [show takeL.any (id ∘ fun x => decide (x ∈ kvs.map (·.1))) = true from hb2]
          have hw : Wnd xs := ⟨(any_keys hcl).mp hb, (any_keys hcl).mp hb2⟩
          k_steps
          refine unhalt ?_
          have hfew : kvs.length ≤ 23 := by
            obtain ⟨_, _, _, _, _, _, hnd⟩ := hdict
            have := nodup_few hnd fun k hk => ((hcl k).mp hk).known
            rwa [List.length_map] at this
          refine list_dict rfl F8 N8 (.head _) hdict lo (by omega) fun B9 c9 h9 tk9 us9 hu9 F9 N9 l9 => ?_
          clear F8 N8
          k_steps
          refine unhalt ?_
          (rename Fr _ _ _ _ => F10); (rename News _ _ _ _ => N10)
          refine kmk_add_lit F10 N10 (N10.isList (.tail _ (.head _))) (N10.isList (.head _)) rfl ?_ ?_
          · intro D11 h11 F11 N11 l11
            replace N11 : News g L' h11 ((D11, _) :: (d, o) :: (L' + 1, o3) :: news) := fun p hp => N11 p (by
              rcases List.mem_cons.mp hp with rfl | hp
              · exact .head _
              · exact .tail _ (.tail _ (.tail _ hp)))
            have hD : D11 > d := l11 _ (.tail _ (.tail _ (.head _)))
            have hD2 : D11 > L' + 1 := l11 _ (.tail _ (.tail _ (.tail _ (.head _))))
            clear F10 N10
            k_steps
            refine unhalt ?_
            have hxs : ∀ t : Tok, StrsAre (us9 ++ [Value.str wcc t]) (kvs.map (·.1) ++ [wcc]) := fun t => StrsAre.append' hu9 (.cons wcc t .nil)
            refine with_needs_c w D11 (us9 ++ [Value.str wcc tk9]) (kvs.map (·.1) ++ [wcc]) 0 _ (.head _) (hxs tk9) (by rw [List.length_append, List.length_map, List.length_singleton]; omega) p loose mean mg mb (dp + 1) (un + 3) gd _ _ _ _ _ _ _ _ _ _ _ _ _ _ B' F11 X' N11 T' rfl (by omega) (by omega) ?_
            rintro r nw h12 tk12 F12 N12 ⟨d2, o2, kvs2, rfl, rfl, hd2, lo2, hdict2, hcl2⟩
            have hcd2 : L' + 1 < d2 := hd2 _ (.tail _ (.tail _ (.head _)))
            have hnd2 : ∀ p ∈ news, p.1 < d2 := fun p hp => hd2 p (.tail _ (.tail _ (.tail _ hp)))
            clear F11 N11
            replace N12 : News g L' h12 ((d2, o2) :: (L' + 1, o3) :: news) := fun p hp => N12 p (by
              rcases List.mem_cons.mp hp with rfl | hp
              · exact .head _
              · exact .tail _ (.tail _ (.tail _ hp)))
            k_steps
            refine storeX_C F12 N12 (c := L' + 1) (o := o3) rfl (.tail (Nat.ne_of_gt hcd2) (.head hnc)) hc3 ?_ rfl rfl
            intro h13 o13 F13 N13 hc13
            clear F12 N12
            k_steps
            exact ⟨rfl, _, _, d2, o2, kvs2, o13, rfl, F13, N13, hnd2, hcd2, lo2, hdict2, hc13, fun k => (hcl2 k).trans (told_wound hcl hw k)⟩
          · have := hu9.length
            rw [List.length_map] at this
            simp only [List.length_cons, List.length_nil]
            rw [sizeLine_eq]; omega
  · rintro f s' ⟨rfl, h4, tk4, d4, o4, kvs4, oc4, rfl, F4, N4, hd4, hcd4, lo4, hdict4, hc4, hcl4⟩
    clear F3 N3 hc3
    k_steps
    refine unhalt ?_
    rename_i pl h5 l5 h6 F6 N6
    refine For_turns F6 ?_
    walk1
    obtain ⟨n61, h61⟩ := rows_tup w
    refine iter_tup (its := (List.toArray ((List.range 23).map fun i => Value.ref (16 + 2 * i)))) (fun i m nx => ∃ rs n tl, m "pairs" = some (.ref pl) ∧ nx = (pl, listOf rs.toArray n) :: (d4, o4) :: (L' + 1, oc4) :: (tl ++ news) ∧ PairsIn tl rs (toldN xs i) ∧ ∀ p ∈ tl, pl < p.1) rfl (tupK X' h61) F6 N6 ⟨[], 0, [], if_pos rfl, rfl, .nil, fun _ hp => nomatch hp⟩ ?_ ?_
    · rintro i v m₁ news₁ I oI h tk hv ⟨rs, n, tl, hmp, rfl, hprs, htl⟩ ho F₁ N₁
      have hi : i < 23 := by
        have := (Array.getElem?_eq_some_iff.mp hv).1
        simpa using this
      have hv' : v = .ref (16 + 2 * i) := by
        simp only [List.getElem?_toArray, List.getElem?_map, List.getElem?_range hi, Option.map_some, Option.some.injEq] at hv
        exact hv.symm
      subst hv'
      obtain ⟨r, hr⟩ : ∃ r, rowsD[i]? = some r := ⟨rowsD[i]'(by rw [rows_len]; exact hi), List.getElem?_eq_getElem _⟩
      obtain ⟨⟨t1, u1, n1, hrow⟩, _⟩ := rowIn w i r hr
      replace F₁ : Fr g L' h m₁ := F₁
      replace N₁ : News g L' h ((I, oI) :: (pl, listOf rs.toArray n) :: (d4, o4) :: (L' + 1, oc4) :: (tl ++ news)) := N₁
      clear F6 N6 hv
      refine unpackN_ F₁ N₁ (items := [.str r.1 t1, .ref (15 + 2 * i), .str r.2.2 u1].toArray) (tupK (X'.keeps F₁.keep) hrow) rfl (by rfl) (by rfl) ?_
      intro h7 F7 N7
      clear F₁ N₁
      k_steps
      refine unhalt ?_
      (rename Fr _ _ _ _ => F8); (rename News _ _ _ _ => N8)
      refine kda_in N8 (.tail _ (.tail _ (.head _))) hdict4 lo4 (strKind_is _ _ _ _) _ (valueAt_mem kvs4 r.1) ?_
      by_cases hin : Told1 xs r.1
      · rw [decide_eq_true ((hcl4 _).mpr hin)]
        have tail : ∀ (D : Addr) (h9 : Heap) (m9 : Str → Option Value) (tk9 : Nat) (u9 : Tok) (x9 : Str) (s9 : Shared) (Q9 : Flow → Shared → Prop), x9 = textW xs r → I < D → pl < D → Fr g L' h9 m9 → m9 "pairs" = some (.ref pl) →
            News g L' h9 ((D, pairObj r.1 t1 x9 u9 0) :: (I, oI) :: (pl, listOf (rs.toArray.push (.ref D)) (n + 1)) :: (d4, o4) :: (L' + 1, oc4) :: (tl ++ news)) →
            TEnd g L' I oI [] (fun m nx => ∃ rs n tl, m "pairs" = some (.ref pl) ∧ nx = (pl, listOf rs.toArray n) :: (d4, o4) :: (L' + 1, oc4) :: (tl ++ news) ∧ PairsIn tl rs (toldN xs (i + 1)) ∧ ∀ p ∈ tl, pl < p.1) s9 Q9 .next { s9 with heap := h9, toks := tk9 } := by
          intro D h9 m9 tk9 u9 x9 s9 Q9 hx9 hID hpD F9 hm9 N9
          rw [List.push_toArray, hx9] at N9
          refine TEnd.go F9 (news' := (pl, listOf (rs ++ [Value.ref D]).toArray (n + 1)) :: (d4, o4) :: (L' + 1, oc4) :: (((D, pairObj r.1 t1 (textW xs r) u9 0) :: tl) ++ news)) (fun p hp => N9 p ?_) (fun p hp => ?_) (fun _ hp => nomatch hp) ⟨rs ++ [Value.ref D], n + 1, (D, pairObj r.1 t1 (textW xs r) u9 0) :: tl, hm9, rfl, ?_, ?_⟩
          · simp only [List.mem_cons, List.mem_append, List.cons_append] at hp ⊢
            rcases hp with h | h | h | h | h | h <;> simp [h]
          · simp only [List.mem_cons, List.mem_append, List.cons_append] at hp
            rcases hp with h | h | h | h | h | h
            · rw [h]; exact fun e => ho _ (.head _) e
            · rw [h]; exact fun e => ho _ (.tail _ (.head _)) e
            · rw [h]; exact fun e => ho _ (.tail _ (.tail _ (.head _))) e
            · rw [h]; exact Nat.ne_of_gt hID
            · exact ho p (.tail _ (.tail _ (.tail _ (List.mem_append_left _ h))))
            · exact ho p (.tail _ (.tail _ (.tail _ (List.mem_append_right _ h))))
          · rw [toldN_yes hr hin]
            exact PairsIn.snoc (.head _) (hprs.mono fun p hp => .tail _ hp)
          · intro p hp
            rcases List.mem_cons.mp hp with rfl | hp
            · exact hpD
            · exact htl p hp
        have hIp : I ≠ pl := fun e => ho _ (.head _) e.symm
        have hrest : ∀ p ∈ (d4, o4) :: (L' + 1, oc4) :: (tl ++ news), p.1 ≠ pl := fun p hp => by
          rcases List.mem_cons.mp hp with rfl | hp
          · exact Nat.ne_of_lt l5.1
          · rcases List.mem_cons.mp hp with rfl | hp
            · exact Nat.ne_of_lt l5.2.1
            · rcases List.mem_append.mp hp with hp | hp
              · exact Nat.ne_of_gt (htl p hp)
              · exact Nat.ne_of_lt (allLt_all l5.2.2 p hp)
        have hrs : rs.toArray.size ≤ sizeLine := by
          have h1 := hprs.length
          have h2 : (toldN xs i).length ≤ 23 := toldN_len xs i
          rw [List.size_toArray, h1, sizeLine_eq]; omega
        k_steps
        · refine unhalt ?_
          rename_i hx
          refine kda_in N8 (.tail _ (.tail _ (.head _))) hdict4 lo4 (strKind_is _ _ _ _) _ (valueAt_mem kvs4 wcc) ?_
          have hxe : r.1 = cwcc := eq_of_beq hx
          by_cases hw : Told1 xs wcc
          · rw [decide_eq_true ((hcl4 _).mpr hw)]
            k_steps
            refine unhalt ?_
            rename_i D9 h9 F9 N9 l9
            refine append_K F9 N9 (.tail (Nat.ne_of_gt l9.2.1) (.tail hIp (.head hrest))) ?_ hrs
            intro h10 F10 N10
            k_steps
            exact tail _ _ _ _ _ _ _ _ (textW_wound ⟨hxe, hw⟩).symm l9.1 l9.2.1 F10 ((if_neg (by decide)).trans ((if_neg (by decide)).trans ((if_neg (by decide)).trans ((if_neg (by decide)).trans hmp)))) N10
          · rw [decide_eq_false fun q => hw ((hcl4 _).mp q)]
            k_steps
            refine unhalt ?_
            rename_i D9 h9 F9 N9 l9
            refine append_K F9 N9 (.tail (Nat.ne_of_gt l9.2.1) (.tail hIp (.head hrest))) ?_ hrs
            intro h10 F10 N10
            k_steps
            exact tail _ _ _ _ _ _ _ _ (textW_plain fun q => hw q.2).symm l9.1 l9.2.1 F10 ((if_neg (by decide)).trans ((if_neg (by decide)).trans ((if_neg (by decide)).trans ((if_neg (by decide)).trans hmp)))) N10
        · refine unhalt ?_
          rename_i hx _ D9 h9 F9 N9 l9
          refine append_K F9 N9 (.tail (Nat.ne_of_gt l9.2.1) (.tail hIp (.head hrest))) ?_ hrs
          intro h10 F10 N10
          k_steps
          exact tail _ _ _ _ _ _ _ _ (textW_plain fun q => by rw [q.1] at hx; exact absurd hx (by decide)).symm l9.1 l9.2.1 F10 ((if_neg (by decide)).trans ((if_neg (by decide)).trans ((if_neg (by decide)).trans ((if_neg (by decide)).trans hmp)))) N10
      · rw [decide_eq_false fun q => hin ((hcl4 _).mp q)]
        k_steps
        (rename Fr _ _ _ _ => F9); (rename News _ _ _ _ => N9)
        exact TEnd.go F9 N9 ho (fun _ hp => nomatch hp) ⟨rs, n, tl, (if_neg (by decide)).trans ((if_neg (by decide)).trans ((if_neg (by decide)).trans hmp)), rfl, by rw [toldN_no hr hin]; exact hprs, htl⟩
    · rintro m' news' h' tk ⟨kns, kko, kk⟩ N9 ⟨rs, n, tl, hmp, rfl, hprs, htl⟩
      replace F9 : Fr g L' h' m' := ⟨kns, kko, kk⟩
      replace N9 : News g L' h' ((pl, listOf rs.toArray n) :: (d4, o4) :: (L' + 1, oc4) :: (tl ++ news)) := N9
      replace N9 : News g L' h' ((pl, listOf rs.toArray n) :: (tl ++ news)) := fun p hp => N9 p (by
        rcases List.mem_cons.mp hp with rfl | hp
        · exact .head _
        · exact .tail _ (.tail _ (.tail _ hp)))
      clear F6 N6
      k_steps
      (rename Fr _ _ _ _ => F10); (rename News _ _ _ _ => N10)
      exact hret _ _ _ _ F10 N10 ⟨pl, rs, n, tl, rfl, rfl, hprs, fun q hq => allLt_all l5.2.2 q hq, htl⟩
theorem prelude_for_c (w : World) (l : Addr) (vs : List Value) (xs : List Str) (n : Nat) (news : List (Addr × Obj)) (hl : (l, listOf vs.toArray n) ∈ news) (hx : StrsAre vs xs) (hlen : xs.length ≤ 500) :
    Ctr w 92 [.ref l] news 20 100 (fun r nw => ∃ pl rs n tl, r = .ref pl ∧ nw = (pl, listOf rs.toArray n) :: (tl ++ news) ∧ PairsIn tl rs (toldL xs) ∧ (∀ q ∈ news, q.1 < pl) ∧ ∀ p ∈ tl, pl < p.1) :=
  prelude_for_a w l vs xs n news hl hx hlen _ _ fun s fd oc od osl e => by
    have h : ((Mine.hd.heap_39 w.params)).lookup 92 = some ⟨_, _, .func _, _⟩ := rfl
    rw [h] at e; cases e; exact BindsTo.of_eq rfl
theorem prelude_for_k (w : World) (l : Addr) (vs : List Value) (xs : List Str) (n : Nat) (news : List (Addr × Obj)) (hl : (l, listOf vs.toArray n) ∈ news) (hx : StrsAre vs xs) (hlen : xs.length ≤ 500) :
    CtrK w 92 [] [(Str.ofString "names", .ref l)] news 20 100 (ToldPost xs news) :=
  prelude_for_a w l vs xs n news hl hx hlen _ _ fun s fd oc od osl e => by
    have h : ((Mine.hd.heap_39 w.params)).lookup 92 = some ⟨_, _, .func _, _⟩ := rfl
    rw [h] at e; cases e; exact BindsTo.of_eq rfl
end Mine
end

section
open PySem PySem.W PyProof.Rows
namespace Mine
local macro_rules | `(tactic| walk_at "eval Name") => `(tactic| (k_here; k_dflt (refine' nameX_L ?k1 ?k2 ?_; (case k1 => k_asm); (case k2 => ((try dsimp only); (repeat (refine (if_neg (by decide)).trans ?_)); first | exact if_pos rfl | assumption)); k_whole)))
local macro_rules | `(tactic| walk_at "binaryOp Add str str") => `(tactic| refine halt ?_)
local macro_rules | `(tactic| walk_at "compareOp NotEq str str") => `(tactic| refine halt ?_)
local macro_rules | `(tactic| walk_at "call ref") => `(tactic| refine halt ?_)
local macro_rules | `(tactic| walk_at "compareOp In str str") => `(tactic| refine halt ?_)
local macro_rules | `(tactic| walk_at "call builtin:list.append") => `(tactic| refine halt ?_)
local macro_rules | `(tactic| walk_at "exec For Name BinOp cons nil") => `(tactic| refine halt ?_)
example : Here PySem.Challenge.rw_nt0256_01 hd.heap_39 True := by
  k_fill
  exact here_of trivial
def sepC (c : Nat) : Bool := c == 40 || c == 41 || c == 39 || c == 32 || c == 10
def stepL (st : List (List Nat) × List Nat) (c : Nat) : List (List Nat) × List Nat :=
  if sepC c then (if st.2.isEmpty then st.1 else st.1 ++ [st.2], []) else (st.1, st.2 ++ [c])
def wordsL (cs : List Nat) : List (List Nat) := ((cs ++ [32]).foldl stepL ([], [])).1
def ofL (w : List Nat) : Str := ⟨w.toArray⟩
/-- the words of a text -/
def wordsS (x : Str) : List Str := (wordsL x.cps.toList).map ofL
theorem sep_in (c : Nat) : (!(Builtin.Str.occurrences (Str.ofString "()' \n") ⟨#[c]⟩ 0 (Str.ofString "()' \n").length 1).isEmpty) = sepC c := by
  rw [StrLaws.found_one]
  have e : (Str.ofString "()' \n").cps.toList = [40, 41, 39, 32, 10] := by decide
  rw [e]
  unfold sepC
  by_cases h1 : c = 40 <;> by_cases h2 : c = 41 <;> by_cases h3 : c = 39 <;> by_cases h4 : c = 32 <;> by_cases h5 : c = 10 <;> simp [h1, h2, h3, h4, h5]
theorem stepL_len (cs : List Nat) : ∀ st : List (List Nat) × List Nat, (cs.foldl stepL st).1.length + (cs.foldl stepL st).2.length ≤ st.1.length + st.2.length + cs.length := by
  induction cs with
  | nil => intro st; simp
  | cons c cs ih =>
    intro st
    have h := ih (stepL st c)
    have h2 : (stepL st c).1.length + (stepL st c).2.length ≤ st.1.length + st.2.length + 1 := by
      unfold stepL
      cases sepC c with
      | true =>
        simp only [if_true]
        split
        · simp only [List.length_nil]; omega
        · simp only [List.length_append, List.length_cons, List.length_nil]; omega
      | false => simp only [Bool.false_eq_true, if_false, List.length_append, List.length_cons, List.length_nil]; omega
    rw [List.foldl_cons, List.length_cons]
    omega
set_option maxRecDepth 100000
set_option maxHeartbeats 4000000
theorem law_words_c (w : World) (x : Str) (t : Tok) (news : List (Addr × Obj)) (ha : x.cps.all (· < 128) = true) (hz : x.length ≤ 5000) :
    Ctr w 118 [.str x t] news 10 50 (fun r nw => ∃ wl vs n, r = .ref wl ∧ nw = (wl, listOf vs.toArray n) :: news ∧ StrsAre vs (wordsS x) ∧ ∀ q ∈ news, q.1 < wl) := by
  unfold Ctr
  intro p loose mean mg mb dp un gd cn cs a ccd cl outer A₀ base h₀ L m s Q E B F X N T hk hd hu hret
  refine wpAny_call ?_
  k_dflt ktr_enter
  rename_i g L' h₁ FG F' N' B' X' T'
  k_steps
  refine unhalt ?_
  (rename Fr _ _ _ _ => F2); (rename News _ _ _ _ => N2)
  rename_i wl hA lA Dt hB lB hC hD hE
  obtain ⟨mF, hmt, hmw, hmh, F3⟩ : ∃ mF : Str → Option Value, mF "text" = some (.str x t) ∧ mF "words" = some (.ref wl) ∧ (∃ ht, mF "here" = some (.str (ofL []) ht)) ∧ Fr g L' hE mF := ⟨_, rfl, rfl, ⟨_, rfl⟩, F2⟩
  replace N2 : News g L' hE ((wl, listOf ([] : List Value).toArray 0) :: news) := fun p hp => N2 p (.tail _ hp)
  clear F2
  refine For_turns F3 ?_
  k_steps
  refine unhalt ?_
  refine add_str (fun t' tk' => ?_) (by rw [sizeLine_eq]; show x.length + 1 ≤ _; omega)
  have hcs : (x ++ Str.ofString " ").cps.toList = x.cps.toList ++ [32] := by
    rw [Str.cps_append, Array.toList_append]; rfl
  have ha' : (x ++ Str.ofString " ").cps.all (· < 128) = true := by
    rw [← Array.all_toList, hcs, List.all_append, Array.all_toList, ha]; rfl
  have hxl : x.cps.toList.length ≤ 5000 := by rw [Array.length_toList]; exact hz
  refine iter_str (fun i m nx => ∃ vs n ht, m "words" = some (.ref wl) ∧ m "here" = some (.str (ofL (((x.cps.toList ++ [32]).take i).foldl stepL ([], [])).2) ht) ∧ nx = (wl, listOf vs.toArray n) :: news ∧ StrsAre vs ((((x.cps.toList ++ [32]).take i).foldl stepL ([], [])).1.map ofL))
    rfl ha' F3 N2 ⟨[], 0, by obtain ⟨ht, hh⟩ := hmh; exact ⟨ht, hmw, hh, rfl, .nil⟩⟩ ?_ ?_
  · rintro i c u m₁ news₁ I oI h tk hci ⟨vs, n, ht, hmw₁, hmh₁, rfl, hvs⟩ ho F₁ N₁
    have hci' : (x.cps.toList ++ [32])[i]? = some c := by rw [← hcs, Array.getElem?_toList]; exact hci
    have hlen := stepL_len ((x.cps.toList ++ [32]).take i) ([], [])
    have htk : ((x.cps.toList ++ [32]).take (i + 1)).foldl stepL ([], []) = stepL (((x.cps.toList ++ [32]).take i).foldl stepL ([], [])) c := by
      rw [List.take_add_one, hci', Option.toList_some, List.foldl_append]; rfl
    have hln : ((x.cps.toList ++ [32]).take i).length ≤ 5001 := by
      refine Nat.le_trans (List.length_take_le' _ _) ?_
      rw [List.length_append, List.length_singleton]; omega
    generalize hst : ((x.cps.toList ++ [32]).take i).foldl stepL ([], []) = st at *
    obtain ⟨ws, here⟩ := st
    replace F₁ : Fr g L' h m₁ := F₁
    replace N₁ : News g L' h ((I, oI) :: (wl, listOf vs.toArray n) :: news) := N₁
    clear F3 N2
    simp only [List.length_nil] at hlen
    dsimp only at hmh₁ hvs hlen
    k_steps
    refine unhalt ?_
    refine in_str ?_
    rw [sep_in]
    cases hs : sepC c with
    | true =>
      have hstep : stepL (ws, here) c = (if here.isEmpty then ws else ws ++ [here], []) := by unfold stepL; rw [hs]; rfl
      k_steps
      refine unhalt ?_
      refine ne_str ?_
      cases here with
      | nil =>
        rw [show (ofL ([] : List Nat) != Str.ofString "") = false from by decide]
        k_steps
        (rename Fr _ _ _ _ => F5); (rename News _ _ _ _ => N5)
        refine TEnd.go F5 N5 ho (fun _ hp => nomatch hp) ⟨vs, n, _, (if_neg (by decide)).trans ((if_neg (by decide)).trans hmw₁), by rw [htk, hstep]; exact if_pos rfl, rfl, by rw [htk, hstep]; exact hvs⟩
      | cons c0 cr =>
        rw [show (ofL (c0 :: cr : List Nat) != Str.ofString "") = true from by
          rw [bne_iff_ne]; intro e
          have e2 := congrArg (fun z : Str => z.cps.toList) e
          exact absurd e2 (by show ¬ (c0 :: cr = []); simp)]
        k_steps
        refine unhalt ?_
        (rename Fr _ _ _ _ => F5); (rename News _ _ _ _ => N5)
        have hvl : vs.toArray.size ≤ sizeLine := by
          have := hvs.length
          rw [List.length_map] at this
          rw [List.size_toArray, this, sizeLine_eq]; omega
        refine append_K F5 N5 (.tail (fun e => ho _ (.head _) e.symm) (.head fun p hp => Nat.ne_of_lt (lA p hp))) ?_ hvl
        intro h6 F6 N6
        rw [List.push_toArray] at N6
        clear F5 N5
        k_steps
        (rename Fr _ _ _ _ => F7); (rename News _ _ _ _ => N7)
        refine TEnd.go F7 N7 (fun p hp => ?_) (fun _ hp => nomatch hp) ⟨vs ++ [_], n + 1, _, (if_neg (by decide)).trans ((if_neg (by decide)).trans hmw₁), by rw [htk, hstep]; exact if_pos rfl, rfl, by
          rw [htk, hstep]
          show StrsAre _ ((ws ++ [c0 :: cr]).map ofL)
          rw [List.map_append]
          exact StrsAre.append' hvs (.cons _ _ .nil)⟩
        · rcases List.mem_cons.mp hp with rfl | hp
          · exact ho (wl, listOf vs.toArray n) (.head _)
          · exact ho _ (.tail _ hp)
    | false =>
      have hstep : stepL (ws, here) c = (ws, here ++ [c]) := by unfold stepL; rw [hs]; rfl
      k_steps
      refine unhalt ?_
      (rename Fr _ _ _ _ => F5); (rename News _ _ _ _ => N5)
      refine add_str (fun t5 tk5 => ?_) (by rw [sizeLine_eq]; show here.toArray.size + 1 ≤ _; rw [List.size_toArray]; omega)
      have e : ofL here ++ (⟨#[c]⟩ : Str) = ofL (here ++ [c]) := by
        apply Str.ext'
        rw [Str.cps_append]
        show here.toArray ++ #[c] = (here ++ [c]).toArray
        simp
      rw [e]
      k_steps
      (rename Fr _ _ _ _ => F6); (rename News _ _ _ _ => N6)
      refine TEnd.go F6 N6 ho (fun _ hp => nomatch hp) ⟨vs, n, _, (if_neg (by decide)).trans ((if_neg (by decide)).trans hmw₁), by rw [htk, hstep]; exact if_pos rfl, rfl, by rw [htk, hstep]; exact hvs⟩
  · rintro m' news' h' tk F9 N9 ⟨vs, n, ht, hmw₁, hmh₁, rfl, hvs⟩
    replace F9 : Fr g L' h' m' := F9
    replace N9 : News g L' h' ((wl, listOf vs.toArray n) :: news) := N9
    clear F3 N2
    k_steps
    rename_i kF kN _ _
    refine hret _ _ _ _ kF kN ⟨wl, vs, n, rfl, rfl, ?_, lA⟩
    have hsz : (x ++ Str.ofString " ").cps.size = (x.cps.toList ++ [32]).length := by rw [← hcs, Array.length_toList]
    rw [hsz, List.take_length] at hvs
    exact hvs
end Mine
end

section
open PySem PySem.W PyProof.Rows
namespace Mine
local macro_rules | `(tactic| walk_at "eval Name") => `(tactic| (k_here; k_dflt (refine' nameX_L ?k1 ?k2 ?_; (case k1 => k_asm); (case k2 => ((try dsimp only); (repeat (refine (if_neg (by decide)).trans ?_)); first | exact if_pos rfl | assumption)); k_whole)))
local macro_rules | `(tactic| walk_at "binaryOp Mod int int") => `(tactic| refine halt ?_)
local macro_rules | `(tactic| walk_at "binaryOp Mult int int") => `(tactic| refine halt ?_)
local macro_rules | `(tactic| k_all) => `(tactic| assumption)
example : Here PySem.Challenge.rw_nt0256_01 hd.heap_39 True := by
  k_fill
  exact here_of trivial
set_option maxRecDepth 100000
set_option maxHeartbeats 4000000
theorem law_draw_c (w : World) (dk cla : Addr) (cvs : List Value) (ks : List Int) (nd nc : Nat) (j many : Int) (tj tm : Tok) (rest : List (Addr × Obj)) (hcl : (cla, listOf cvs.toArray nc) ∈ rest) (hc : IntsAre cvs ks) (hcn : 0 < ks.length) (hcx : ks.length ≤ 100)
    (hdk : ∀ p ∈ rest, p.1 ≠ dk) (hj0 : 0 ≤ j) (hj1 : j ≤ 1000) (hm0 : 0 < many) (hm1 : many ≤ 1000) :
    Ctr w 104 [.ref dk, .int many tm] ((dk, listOf [.ref cla, .int j tj].toArray nd) :: rest) 10 50 (fun r nw => ∃ v t tj', r = .int v t ∧ 0 ≤ v ∧ v < many ∧ nw = (dk, listOf [.ref cla, .int (j + 1) tj'].toArray nd) :: rest) := by
  unfold Ctr
  intro p loose mean mg mb dp un gd cn cs a ccd cl outer A₀ base h₀ L m s Q E B F X N T hk hd hu hret
  refine wpAny_call ?_
  k_dflt ktr_enter
  rename_i g L' h₁ FG F' N' B' X' T'
  obtain ⟨mF, hmd, hmm, F1⟩ : ∃ mF : Str → Option Value, mF "deck" = some (.ref dk) ∧ mF "many" = some (.int many tm) ∧ Fr g L' h₁ mF := ⟨_, rfl, rfl, F'⟩
  clear F'
  k_steps
  (rename Fr _ _ _ _ => F2); (rename News _ _ _ _ => N2)
  have hsz : cvs.toArray.size = ks.length := by rw [List.size_toArray, hc.length]
  refine len_list (N2.isList (.tail _ hcl)) (by rw [hsz]; omega) ?_
  rw [hsz]
  k_steps
  refine unhalt (mod_int (by omega) ?_)
  have hv0 : 0 ≤ (j + 1).fmod (ks.length : Int) := Int.fmod_nonneg_of_pos _ (by omega)
  have hv1 : (j + 1).fmod (ks.length : Int) < (ks.length : Int) := Int.fmod_lt_of_pos _ (by omega)
  generalize (j + 1).fmod (ks.length : Int) = i0 at hv0 hv1
  obtain ⟨c0, hc0⟩ : ∃ c0, ks[i0.toNat]? = some c0 := ⟨ks[i0.toNat]'(by omega), List.getElem?_eq_getElem _⟩
  obtain ⟨tc, hcv⟩ := hc.get _ _ hc0
  refine tail_any (N2.isList (.tail _ hcl)).typeIs slot_list_getitem.lookup (wpAny_getItem_list (N2.isList (.tail _ hcl)) hv0 (by omega) (by simpa using hcv) ?_) (by with_unfolding_all rfl)
  k_steps
  refine unhalt (mod_int (by decide) ?_)
  have hm1a : 0 ≤ c0.fmod 4294966297 := Int.fmod_nonneg_of_pos _ (by decide)
  have hm1b : c0.fmod 4294966297 < 4294966297 := Int.fmod_lt_of_pos _ (by decide)
  generalize c0.fmod 4294966297 = c1 at hm1a hm1b
  k_steps
  refine unhalt (mul_int ?_ (.of_left (intBits_le_64 (by decide) (by decide))))
  k_steps
  refine unhalt (mod_int (by decide) ?_)
  have hm2a : 0 ≤ (c1 + 1640531527 * (j + 1)).fmod 4294966297 := Int.fmod_nonneg_of_pos _ (by decide)
  have hm2b : (c1 + 1640531527 * (j + 1)).fmod 4294966297 < 4294966297 := Int.fmod_lt_of_pos _ (by decide)
  generalize (c1 + 1640531527 * (j + 1)).fmod 4294966297 = c2 at hm2a hm2b
  k_steps
  refine unhalt (mul_int ?_ (.of_left (intBits_le_64 (by omega) (by omega))))
  k_steps
  refine unhalt (mul_int ?_ (.of_left (intBits_le_64 (by decide) (by decide))))
  k_steps
  refine unhalt (mod_int (by decide) ?_)
  have hm3a : 0 ≤ (c2 * c2 + 122949823 * (j + 1)).fmod 4294966237 := Int.fmod_nonneg_of_pos _ (by decide)
  have hm3b : (c2 * c2 + 122949823 * (j + 1)).fmod 4294966237 < 4294966237 := Int.fmod_lt_of_pos _ (by decide)
  generalize (c2 * c2 + 122949823 * (j + 1)).fmod 4294966237 = c3 at hm3a hm3b
  k_steps
  refine unhalt (mul_int ?_ (.of_left (intBits_le_64 (by omega) (by omega))))
  k_steps
  refine unhalt (mod_int (by decide) ?_)
  generalize (c3 * c3).fmod 4294966187 = c4
  k_steps
  refine unhalt (mod_int (by omega) ?_)
  have hm5a : 0 ≤ (c4.fdiv 1024).fmod many := Int.fmod_nonneg_of_pos _ hm0
  have hm5b : (c4.fdiv 1024).fmod many < many := Int.fmod_lt_of_pos _ hm0
  generalize (c4.fdiv 1024).fmod many = c5 at hm5a hm5b
  k_steps
  (rename Fr _ _ _ _ => F9); (rename News _ _ _ _ => N9)
  exact hret _ _ _ _ F9 N9 ⟨c5, _, _, rfl, hm5a, hm5b, rfl⟩
local macro_rules | `(tactic| walk_at "call ref") => `(tactic| refine halt ?_)
theorem law_one_c (w : World) (dk cla il : Addr) (cvs vs : List Value) (ks : List Int) (xs : List Str) (nd nc ni : Nat) (j : Int) (tj : Tok) (rest : List (Addr × Obj)) (hcl : (cla, listOf cvs.toArray nc) ∈ rest) (hc : IntsAre cvs ks) (hcn : 0 < ks.length) (hcx : ks.length ≤ 100)
    (hdk : ∀ p ∈ rest, p.1 ≠ dk) (hj0 : 0 ≤ j) (hj1 : j ≤ 1000) (hil : (il, listOf vs.toArray ni) ∈ rest) (hx : StrsAre vs xs) (hx0 : 0 < xs.length) (hx1 : xs.length ≤ 1000) :
    Ctr w 111 [.ref dk, .ref il] ((dk, listOf [.ref cla, .int j tj].toArray nd) :: rest) 20 100 (fun r nw => ∃ x t tj', r = .str x t ∧ x ∈ xs ∧ nw = (dk, listOf [.ref cla, .int (j + 1) tj'].toArray nd) :: rest) := by
  unfold Ctr
  intro p loose mean mg mb dp un gd cn cs a ccd cl outer A₀ base h₀ L m s Q E B F X N T hk hd hu hret
  refine wpAny_call ?_
  k_dflt ktr_enter
  rename_i g L' h₁ FG F' N' B' X' T'
  obtain ⟨mF, hmd, hmm, F1⟩ : ∃ mF : Str → Option Value, mF "deck" = some (.ref dk) ∧ mF "items" = some (.ref il) ∧ Fr g L' h₁ mF := ⟨_, rfl, rfl, F'⟩
  clear F'
  k_steps
  have hsz : vs.toArray.size = xs.length := by rw [List.size_toArray, hx.length]
  refine len_list (N'.isList (.tail _ hil)) (by rw [hsz]; omega) ?_
  rw [hsz]
  k_steps
  refine unhalt ?_
  refine law_draw_c w dk cla cvs ks nd nc j (xs.length : Int) tj _ rest hcl hc hcn hcx hdk hj0 hj1 (by omega) (by omega) p loose mean mg mb (dp + 1) (un + 3) gd _ _ _ _ _ _ _ _ _ _ _ _ _ _ B' F1 X' N' T' rfl (by omega) (by omega) ?_
  rintro r nw h2 tk2 F2 N2 ⟨v, t, tj', rfl, hv0, hv1, rfl⟩
  obtain ⟨x, hxi⟩ : ∃ x, xs[v.toNat]? = some x := ⟨xs[v.toNat]'(by omega), List.getElem?_eq_getElem _⟩
  obtain ⟨tx, hxv⟩ := hx.get _ _ hxi
  clear F1 N'
  k_steps
  refine tail_any (N2.isList (.tail _ hil)).typeIs slot_list_getitem.lookup (wpAny_getItem_list (N2.isList (.tail _ hil)) hv0 (by omega) (by simpa using hxv) ?_) (by with_unfolding_all rfl)
  k_steps
  (rename Fr _ _ _ _ => F9); (rename News _ _ _ _ => N9)
  exact hret _ _ _ _ F9 N9 ⟨x, _, _, rfl, List.mem_of_getElem? hxi, rfl⟩
end Mine
end

section
open PySem PySem.W PySem.Calls PyProof.Rows
set_option maxRecDepth 100000
namespace Mine
theorem list_keys_none : typeLookup (.type "list") "keys" = pure none := by rw [typeLookup_type, builtinLookup_eq_fast]; kernel_rfl
section
variable {prog : Program} {w : World} {A : Around} {E : Value → Shared → Prop} {s : Shared}
/-- a list has no «keys»: the look for it ends in a caught AttributeError -/
theorem keys_miss_list {a : Addr} {xs : Array Value} {k : Nat} {sl : Array (Option Value)} {Q : Option Value → Shared → Prop}
    (hx : s.heap.get? a = some ⟨.type "list", none, .seq xs k, sl⟩) (quiet : A.handled = none)
    (h : ∀ h' tk, (∀ b o, s.heap.get? b = some o → h'.get? b = some o) → Q none { s with heap := h', toks := tk }) :
    wpAny (model prog w) A (getAttr? (.ref a) "keys") Q E s := by
  have ty (u : Nat) : Shared.TypeIs { s with toks := u } (.ref a) "list" := ⟨_, hx, rfl⟩
  unfold getAttr? getAttrBy? getAttrBy
  refine wpAny_bind (wpAny_mkText (wpAny_bind (wpAny_attempt (wpAny_holding (wpAny_bind (wpAny_typeOf (ty _) ?_))))))
  rw [F.slot_list_getattribute.lookup]
  refine wpAny_bind (wpAny_pure ?_)
  show wpAny _ _ (getAttrByItsOwn _ _ _ _ _ _) _ _ _
  refine wpAny_bind (wpAny_pure (wpAny_bind (wpAny_attempt (wpAny_holding ?_))))
  show wpAny _ _ (bindSpecial _ _ >>= _) _ _ _
  rw [F.slot_list_getattribute.bind (.ref a)]
  refine wpAny_bind (wpAny_pure (call_meets F.slot_list_getattribute (ty _) am_entry_list_getattribute (F.args_list_getattribute_2 _ _)
    (meets_getattribute_miss_list a xs k sl _ _ list_keys_none (by decide) (by rw [sizeLine_eq]; decide)) ⟨hx, quiet, fun h' tk e new => ?_⟩))
  have te (u : Nat) : Shared.TypeIs { s with heap := h', toks := u } (.ref e) "AttributeError" := by
    obtain ⟨_, _, he⟩ := new.there
    exact ⟨_, he, rfl⟩
  show wpAny _ _ (isInstance (.ref e) (.type "AttributeError") >>= _) _ _ _
  refine wpAny_bind (wpAny_isInstance (te _) sub_AttributeError ?_)
  rw [if_pos rfl]
  show wpAny _ _ (typeLookup (.type "list") "__getattr__" >>= _) _ _ _
  rw [am_list_getattr_none]
  refine wpAny_bind (wpAny_pure ?_)
  show wpAny _ _ (throw (Value.ref e)) _ _ _
  refine wpAny_throw ?_
  refine wpAny_bind (wpAny_isInstance (te _) sub_AttributeError ?_)
  rw [if_pos rfl]
  exact wpAny_pure (h _ _ new.keeps)
end
/-- pairs of a text and a value, tuples that stand -/
inductive PairsH (h : Heap) : List Value → List (Str × Value) → Prop
  | nil : PairsH h [] []
  | cons {a : Addr} {t : Tok} {k : Str} {v : Value} {vs : List Value} {ps : List (Str × Value)} : h.IsTuple a #[.str k t, v] → PairsH h vs ps → PairsH h (.ref a :: vs) ((k, v) :: ps)
theorem PairsH.mono {h h' : Heap} : ∀ {vs ps}, PairsH h vs ps → (∀ a o, Value.ref a ∈ vs → h.get? a = some o → h'.get? a = some o) → PairsH h' vs ps
  | _, _, .nil, _ => .nil
  | _, _, .cons t r, k => .cons (t.at fun o e => k _ o (.head _) e) (r.mono fun a o hm e => k a o (.tail _ hm) e)
theorem PairsH.length {h : Heap} : ∀ {vs ps}, PairsH h vs ps → vs.length = ps.length
  | _, _, .nil => rfl
  | _, _, .cons _ r => by rw [List.length_cons, List.length_cons, r.length]
theorem PairsH.at {h : Heap} : ∀ {vs ps}, PairsH h vs ps → ∀ (i : Nat) (v : Value), vs[i]? = some v → ∃ a t k x, v = .ref a ∧ ps[i]? = some (k, x) ∧ h.IsTuple a #[.str k t, x]
  | _, _, .nil, i, v, e => by simp at e
  | _, _, .cons ht _, 0, v, e => by simp at e; subst e; exact ⟨_, _, _, _, rfl, rfl, ht⟩
  | _, _, .cons _ r, i + 1, v, e => by
    simp only [List.getElem?_cons_succ] at e ⊢
    exact r.at i v e
def storedAll (kvs : List (Str × Value)) (ps : List (Str × Value)) : List (Str × Value) := ps.foldl (fun d p => stored d p.1 p.2) kvs
theorem storedAll_len (ps : List (Str × Value)) : ∀ kvs, (storedAll kvs ps).length ≤ kvs.length + ps.length := by
  induction ps with
  | nil => intro kvs; simp [storedAll]
  | cons p ps ih =>
    intro kvs
    have := ih (stored kvs p.1 p.2)
    have h2 : (stored kvs p.1 p.2).length ≤ kvs.length + 1 := by
      unfold stored; split
      · rw [List.length_map]; omega
      · rw [List.length_append]; simp
    show (storedAll (stored kvs p.1 p.2) ps).length ≤ _
    rw [List.length_cons]; omega
theorem storedAll_nodup (ps : List (Str × Value)) : ∀ kvs, ((kvs ++ ps).map (·.1)).Nodup → storedAll kvs ps = kvs ++ ps := by
  induction ps with
  | nil => intro kvs _; simp [storedAll]
  | cons p ps ih =>
    intro kvs h
    have hn : p.1 ∉ kvs.map (·.1) := by
      intro hm
      rw [List.map_append, List.map_cons, List.nodup_append] at h
      exact h.2.2 _ hm _ (.head _) rfl
    show storedAll (stored kvs p.1 p.2) ps = _
    rw [stored_new _ hn, ih _ (by rw [List.append_assoc]; exact h), List.append_assoc]
    rfl
theorem stored_length_le (kvs : List (Str × Value)) (k : Str) (x : Value) : (stored kvs k x).length ≤ kvs.length + 1 := by
  unfold stored; split
  · rw [List.length_map]; omega
  · rw [List.length_append]; simp
theorem upd_entry : entryFor table "dict.update.loop" = some Builtin.«dict.update.loop» := entryFor_of_tree (by kernel_rfl)
theorem upd_plain : plainId "dict.update.loop" = true := by decide +kernel
section
variable {prog : Program} {w : World} {A : Around} {R : Result → Shared → Prop}
theorem upd_loop {I d l : Addr} {vs : List Value} {ps : List (Str × Value)} (hh : A.in1.handled = none) (hlI : l ≠ I) (hdI : d ≠ I) (hdl : d ≠ l) (hdv : ∀ a, Value.ref a ∈ vs → a ≠ d ∧ a ≠ I) (hsz : ps.length ≤ 1000000) :
    ∀ (k i : Nat) (s : Shared) (kvs : List (Str × Value)) (ti : Tok), vs.length - i = k → i ≤ vs.length → s.heap.IsListIter I l i → s.heap.IsList l vs.toArray → PairsH s.heap vs ps → s.heap.DictOf (strKind prog w) d kvs → kvs.length ≤ i →
      (∀ h' tk kvs', kvs' = storedAll kvs (ps.drop i) → h'.DictOf (strKind prog w) d kvs' → (∀ b o, b ≠ d → b ≠ I → s.heap.get? b = some o → h'.get? b = some o) → R (.ok (.ret .none)) { s with heap := h', toks := tk }) →
      codeAny (model prog w) A (.builtin "dict.update.loop" ⟨[.ref d, .ref I, .int i ti, .none], []⟩) R s := by
  intro k
  induction k with
  | zero =>
    intro i s kvs ti hk hi hit hl hp hd hkl hR
    have hin : i = vs.length := by omega
    subst hin
    refine codeAny_builtin upd_entry ?_
    rw [Around.under_plainId upd_plain _]
    show wpAny _ A.in1 (pyNext (.ref I) >>= _) _ _ s
    refine wpAny_bind (wpAny_pyNext_list_end hh hit hl (by simp) fun h' he => ?_)
    show wpAny _ A.in1 (Builtin.Dict.addKeywords d [] >>= _) _ _ _
    refine wpAny_bind (wpAny_pure ?_)
    refine wpAny_pure (hR h' _ kvs (by rw [List.drop_eq_nil_of_le (by rw [hp.length]; exact Nat.le_refl _)]; rfl) ?_ fun b o _ hb e => he b o hb e)
    obtain ⟨o, es, ep, ho, r⟩ := hd
    exact ⟨o, es, ep, he _ _ hdI ho, r⟩
  | succ k ih =>
    intro i s kvs ti hk hi hit hl hp hd hkl hR
    have hlt : i < vs.length := by omega
    refine codeAny_builtin upd_entry ?_
    rw [Around.under_plainId upd_plain _]
    show wpAny _ A.in1 (pyNext (.ref I) >>= _) _ _ s
    refine wpAny_bind (wpAny_pyNext_list_item hit hl (x := vs[i]) (by simp [hlt]) fun h₁ hit₁ hs₁ => ?_)
    obtain ⟨a, t, kk, x, hv, hpi, hT⟩ := hp.at i vs[i] (by simp [hlt])
    have ha := hdv a (by rw [← hv]; exact List.getElem_mem hlt)
    have hT₁ : h₁.IsTuple a #[.str kk t, x] := hT.at fun o e => hs₁.extBut a o ha.2 e
    have hd₁ : h₁.DictOf (strKind prog w) d kvs := by
      obtain ⟨o, es, ep, ho, r⟩ := hd
      exact ⟨o, es, ep, hs₁.extBut _ _ hdI ho, r⟩
    rw [hv]
    show wpAny _ A.in1 (holding [Value.ref a] _ >>= _) _ _ _
    refine wpAny_bind (wpAny_holding ?_)
    refine wpAny_bind (wpAny_tryCatch ?_)
    unfold Builtin.Dict.pairItems
    obtain ⟨oT, hoT, hcT, nT, hdT⟩ := hT₁
    refine wpAny_bind (wpAny_typeOf (T := "tuple") ⟨oT, hoT, hcT⟩ ?_)
    rw [if_pos (by decide)]
    refine wpAny_bind (wpAny_seqItems hoT hdT ?_)
    refine wpAny_pure ?_
    show wpAny _ A.in1 (holding [Value.str kk t, x] (dictSet d (Value.str kk t) x)) _ _ _
    refine wpAny_holding ?_
    refine wpAny_dictSet_pairs (knd := strKind prog w) (strKind_is _ _ _ _) hd₁ (fun h₂ hd₂ hs₂ => ?_) (by rw [hp.length] at hlt; rw [sizeLine_eq]; omega)
    refine wpAny_pure ⟨plainId_quiet upd_plain _, ?_⟩
    have hsl := stored_length_le kvs kk x
    refine ih (i + 1) _ (stored kvs kk x) 0 (by omega) hlt ?_ ?_ ?_ hd₂ (by omega) fun h' tk kvs' e hd' hk' => ?_
    · exact hit₁.at fun o e => hs₂.extBut _ o (Ne.symm hdI) e
    · exact hl.at fun o e => hs₂.extBut _ o (Ne.symm hdl) (hs₁.extBut _ o hlI e)
    · exact hp.mono fun b o hm e => hs₂.extBut _ o (hdv b hm).1 (hs₁.extBut _ o (hdv b hm).2 e)
    · refine hR h' tk kvs' ?_ hd' fun b o h1 h2 e => hk' b o h1 h2 (hs₂.extBut _ o h1 (hs₁.extBut _ o h2 e))
      have hlt' : i < ps.length := by rw [← hp.length]; exact hlt
      rw [e, List.drop_eq_getElem_cons hlt', show ps[i] = (kk, x) from Option.some.inj ((List.getElem?_eq_getElem hlt').symm.trans hpi)]
      rfl
end
section
variable {prog : Program} {w : World} {A : Around} {E : Value → Shared → Prop} {s : Shared} {h₀ : Heap} {L l : Addr} {m : Str → Option Value} {news : List (Addr × Obj)}
theorem dict_pairs {vs : List Value} {n : Nat} {ps : List (Str × Value)} {Q : Value → Shared → Prop} (hh : A.handled = none) (F : Fr h₀ L s.heap m) (N : News h₀ L s.heap news) (hbig : h₀.NoLimit)
    (hl : (l, listOf vs.toArray n) ∈ news) (hp : PairsH s.heap vs ps) (hsz : ps.length ≤ 1000000)
    (h : ∀ d o h' tk, Fr h₀ L h' m → News h₀ L h' ((d, o) :: news) → (∀ p ∈ news, p.1 < d) → (d == sysModules) = false → o.IsDictOf (strKind prog w) (storedAll [] ps) → Q (.ref d) { s with heap := h', toks := tk }) :
    wpAny (model prog w) A (call (.type "dict") [.ref l]) Q E s := by
  have hol := (N _ hl).1
  have hls : s.heap.IsList l vs.toArray := ⟨_, hol, rfl, n, rfl⟩
  have hll : l < s.heap.objs.size := Heap.lt_size hol
  have hva : ∀ a, Value.ref a ∈ vs → a < s.heap.objs.size := fun a ha => by
    obtain ⟨i, hi⟩ := List.getElem?_of_mem ha
    obtain ⟨a', _, _, _, e, _, o, ho, _⟩ := hp.at i _ hi
    cases e
    exact Heap.lt_size ho
  refine callType_codes (Q₁ := fun obj s₁ => obj = .ref s.heap.objs.size ∧ s₁ = { s with heap := s.heap.push { cls := .type "dict", data := .dict #[] } }) PySem.F.kt_called_dict (PySem.F.kt_typeCall_dict_1 _) PySem.F.entry_dict_init (kt_code_dict_new _ ⟨rfl, rfl⟩) ?_
  rintro obj s₁ ⟨rfl, rfl⟩
  have hnew : (s.heap.push { cls := .type "dict", data := .dict #[] }).DictOf (strKind prog w) s.heap.objs.size [] := Heap.DictOf.new s.heap
  have up : ∀ b o, s.heap.get? b = some o → (s.heap.push { cls := .type "dict", data := .dict #[] }).get? b = some o := fun b o e => Heap.get?_push_of_some _ e
  refine ⟨hnew.typeIs, PySem.F.args_dict_init_2 _ _, ?_⟩
  unfold Builtin.«dict.__init__» Builtin.Dict.selfAndRest
  refine wpAny_bind (wpAny_bind (wpAny_notOrdered_dict hnew.typeIs (wpAny_pure ?_)))
  show wpAny _ _ (typeOf (.ref l) >>= _) _ _ _
  refine wpAny_bind (wpAny_typeOf (T := "list") ⟨_, up _ _ hol, rfl⟩ ?_)
  rw [if_pos (by decide)]
  refine wpAny_bind (keys_miss_list (A := A.in1.in1) (up _ _ hol) hh fun h₁ tk₁ k₁ => ?_)
  have hd₁ : h₁.DictOf (strKind prog w) s.heap.objs.size [] := by
    obtain ⟨o, es, ep, ho, r⟩ := hnew
    exact ⟨o, es, ep, k₁ _ _ ho, r⟩
  have up₁ : ∀ b o, s.heap.get? b = some o → h₁.get? b = some o := fun b o e => k₁ _ _ (up _ _ e)
  have hl₁ : h₁.IsList l vs.toArray := hls.at fun o e => up₁ _ o e
  have hd1lt : s.heap.objs.size < h₁.objs.size := by obtain ⟨o, es, ep, ho, r⟩ := hd₁; exact Heap.lt_size ho
  rw [if_pos (by rfl)]
  refine wpAny_bind (wpAny_rule ?_)
  refine wpAny_bind (wpAny_pyIter_list hl₁ ?_)
  have hlI : l ≠ h₁.objs.size := Nat.ne_of_lt (Heap.lt_size (up₁ _ _ hol))
  refine wpAny_pure ⟨plainId_quiet upd_plain _, ?_⟩
  have up₂ : ∀ b o, h₁.get? b = some o → (h₁.push { cls := .type "list_iterator", data := .fields #[.ref l, .int 0 0] }).get? b = some o := fun b o e => Heap.get?_push_of_some _ e
  refine upd_loop (A := A.in1) (I := h₁.objs.size) (d := s.heap.objs.size) (l := l) (vs := vs) (ps := ps) hh hlI (Nat.ne_of_lt hd1lt) (Nat.ne_of_gt hll) (fun a ha => ⟨Nat.ne_of_lt (hva a ha), Nat.ne_of_lt (Nat.lt_trans (hva a ha) hd1lt)⟩) hsz (vs.length - 0) 0 _ [] 0 rfl (Nat.zero_le _)
    ?_ ?_ ?_ ?_ (Nat.zero_le _) fun h' tk kvs' e hd' hk' => ?_
  · exact ⟨_, Heap.get?_push_size _ rfl, rfl, rfl⟩
  · exact hl₁.push _
  · exact hp.mono fun a o _ e => up₂ _ _ (up₁ _ _ e)
  · obtain ⟨o, es, ep, ho, r⟩ := hd₁
    exact ⟨o, es, ep, up₂ _ _ ho, r⟩
  · obtain ⟨o', ho', hd''⟩ := Heap.dictOf_iff.mp hd'
    rw [e, List.drop_zero] at hd''
    have hL : L < s.heap.objs.size := F.ns.lt
    have kk : ∀ b o, s.heap.get? b = some o → h'.get? b = some o := fun b o e =>
      hk' b o (Nat.ne_of_lt (Heap.lt_size e)) (Nat.ne_of_lt (Nat.lt_trans (Heap.lt_size e) hd1lt)) (up₂ _ _ (up₁ _ _ e))
    refine ⟨rfl, h s.heap.objs.size o' h' tk (F.kept kk) (News.kept_cons F N kk (Nat.le_refl _) ho') (fun p hp => Heap.lt_size (N p hp).1) (F.notModules (modules_low hbig)) hd''⟩
end
end Mine
end

section
open PySem PySem.W PySem.Calls PyProof.Rows PyProof.Rows.LCg
set_option maxRecDepth 100000
namespace Mine
abbrev pairV (k : Str) (t : Tok) (v : Value) (n : Nat) : Obj := ⟨.type "tuple", none, .seq [Value.str k t, v].toArray n, #[]⟩
/-- pairs of a text and a value, tuples of the ledger -/
inductive PairsL (nw : List (Addr × Obj)) : List Value → List (Str × Value) → Prop
  | nil : PairsL nw [] []
  | cons {a : Addr} {t : Tok} {n : Nat} {k : Str} {v : Value} {vs : List Value} {ps : List (Str × Value)} : (a, pairV k t v n) ∈ nw → PairsL nw vs ps → PairsL nw (.ref a :: vs) ((k, v) :: ps)
theorem PairsL.mono {nw nw' : List (Addr × Obj)} (hs : ∀ p ∈ nw, p ∈ nw') : ∀ {vs ps}, PairsL nw vs ps → PairsL nw' vs ps
  | _, _, .nil => .nil
  | _, _, .cons h r => .cons (hs _ h) (r.mono hs)
theorem PairsL.length {nw : List (Addr × Obj)} : ∀ {vs ps}, PairsL nw vs ps → vs.length = ps.length
  | _, _, .nil => rfl
  | _, _, .cons _ r => by rw [List.length_cons, List.length_cons, r.length]
theorem PairsL.snoc {nw : List (Addr × Obj)} {a : Addr} {t : Tok} {n : Nat} {k : Str} {v : Value} (h : (a, pairV k t v n) ∈ nw) : ∀ {vs ps}, PairsL nw vs ps → PairsL nw (vs ++ [.ref a]) (ps ++ [(k, v)])
  | _, _, .nil => .cons h .nil
  | _, _, .cons h' r => .cons h' (r.snoc h)
theorem PairsL.at {nw : List (Addr × Obj)} : ∀ {vs ps}, PairsL nw vs ps → ∀ (i : Nat) (v : Value), vs[i]? = some v → ∃ a t n k x, v = .ref a ∧ ps[i]? = some (k, x) ∧ (a, pairV k t x n) ∈ nw
  | _, _, .nil, i, v, e => by simp at e
  | _, _, .cons ht _, 0, v, e => by simp at e; subst e; exact ⟨_, _, _, _, _, rfl, rfl, ht⟩
  | _, _, .cons _ r, i + 1, v, e => by
    simp only [List.getElem?_cons_succ] at e ⊢
    exact r.at i v e
theorem PairsL.toH {h₀ h : Heap} {L : Addr} {nw : List (Addr × Obj)} (N : News h₀ L h nw) : ∀ {vs ps}, PairsL nw vs ps → PairsH h vs ps
  | _, _, .nil => .nil
  | _, _, .cons ht r => .cons ⟨_, (N _ ht).1, rfl, _, rfl⟩ (r.toH N)
/-- the values are texts -/
inductive StrVals : List (Str × Value) → List (Str × Str) → Prop
  | nil : StrVals [] []
  | cons {k x : Str} {u : Tok} {kvs : List (Str × Value)} {ps : List (Str × Str)} : StrVals kvs ps → StrVals ((k, .str x u) :: kvs) ((k, x) :: ps)
theorem PairsIn.toL {nw : List (Addr × Obj)} : ∀ {vs ps}, PairsIn nw vs ps → ∃ kvs, PairsL nw vs kvs ∧ StrVals kvs ps
  | _, _, .nil => ⟨[], .nil, .nil⟩
  | _, _, .cons h r => by
    obtain ⟨kvs, h1, h2⟩ := r.toL
    exact ⟨_, .cons h h1, .cons h2⟩
theorem StrVals.keys : ∀ {kvs ps}, StrVals kvs ps → kvs.map (·.1) = ps.map (·.1)
  | _, _, .nil => rfl
  | _, _, .cons h => by rw [List.map_cons, List.map_cons, h.keys]
theorem StrVals.length : ∀ {kvs ps}, StrVals kvs ps → kvs.length = ps.length
  | _, _, .nil => rfl
  | _, _, .cons h => by rw [List.length_cons, List.length_cons, h.length]
theorem StrVals.valueAt : ∀ {kvs ps}, StrVals kvs ps → ∀ k, k ∈ ps.map (·.1) → ∃ x u, PySem.valueAt kvs k = some (.str x u) ∧ (k, x) ∈ ps
  | _, _, .nil, k, h => by simp at h
  | _, _, .cons (k := k0) (x := x0) (u := u0) (kvs := kvs) h, k, hk => by
    by_cases e : k0 = k
    · subst e
      exact ⟨x0, u0, by unfold PySem.valueAt; simp, .head _⟩
    · rw [List.map_cons, List.mem_cons] at hk
      obtain ⟨x, u, h1, h2⟩ := h.valueAt k (hk.resolve_left fun q => e q.symm)
      refine ⟨x, u, ?_, .tail _ h2⟩
      rw [← h1]
      unfold PySem.valueAt
      rw [List.find?_cons_of_neg (by simpa using e)]

theorem StrVals.at : ∀ {kvs ps}, StrVals kvs ps → ∀ (i : Nat) (k : Str) (v : Value), kvs[i]? = some (k, v) → ∃ x u, v = .str x u ∧ ps[i]? = some (k, x)
  | _, _, .nil, i, _, _, e => by simp at e
  | _, _, .cons _, 0, _, _, e => by simp at e; obtain ⟨rfl, rfl⟩ := e; exact ⟨_, _, rfl, rfl⟩
  | _, _, .cons h, i + 1, k, v, e => by
    simp only [List.getElem?_cons_succ] at e ⊢
    exact h.at i k v e
section
variable {prog : Program} {w : World} {A : Around} {E : Value → Shared → Prop} {s : Shared} {h₀ : Heap} {L : Addr} {m : Str → Option Value} {env : Env}
/-- the turns of a block over a list of pairs, by an invariant -/
theorem pairs_inv {elt : PySem.Expr} {a b : Str} {scope : Scope} {cl : List (Str × Addr)} {S : List (Addr × Obj) → Prop} {Fin : List Value → List (Addr × Obj) → Prop} {vs : List Value} {ps : List (Str × Value)} (J : Nat → List Value → List (Addr × Obj) → Prop)
    (pairs : ∀ i ys news, J i ys news → PairsL news vs ps)
    (turn : ∀ i k v ys news (t : Tok) I oI C oC D m₂ h tk (E' : Value → Shared → Prop), ps[i]? = some (k, v) → J i ys news → NsObj oC m₂ → m₂ a = some (.str k t) → m₂ b = some v → Fr h₀ L h m → News h₀ L h ((I, oI) :: (C, oC) :: (D, lst ys) :: news) → Off3 I C D news → I ≠ C → I ≠ D → C ≠ D →
      wpAny (model prog w) A (eval elt (compEnvC scope cl C env)) (CompEnd h₀ L m { s with heap := h, toks := tk } I oI C oC D (lst ys) S (fun y news' => J (i + 1) (ys ++ [y]) news')) E' { s with heap := h, toks := tk })
    (fin : ∀ ys news, J vs.length ys news → Fin ys news) : ∀ k i ys news, i + k = vs.length → J i ys news → LCp.CompRestP prog w A h₀ L m env elt a b scope cl s S (fun i v => vs.toArray[i]? = some v) Fin k i ys news
  | 0, i, ys, news, hi, hj => LCp.CompRestP.zero (fin _ _ (hi ▸ hj))
  | k + 1, i, ys, news, hi, hj => by
    refine LCp.CompRestP.succ fun v hv => ?_
    obtain ⟨T, t, n, key, x, rfl, hp, hT⟩ := (pairs _ _ _ hj).at i v (by simpa using hv)
    refine ⟨T, _, .str key t, x, n, rfl, hT, rfl, rfl, fun I oI C oC D m₂ h tk E' hC ha hb F N off ne => ?_⟩
    refine wpAny_mono (turn i key x ys news t I oI C oC D m₂ h tk E' hp hj hC ha hb F N off ne.1 ne.2.1 ne.2.2) ?_ fun _ _ e => e
    rintro y s₂ ⟨h', tk', nw, e, F', N', off', hS, hr⟩
    exact ⟨h', tk', nw, e, F', N', off', hS, pairs_inv J pairs turn fin k (i + 1) _ _ (by omega) hr⟩

/-- a name that takes a tested block over a tuple -/
theorem Assign_ListComp_tupT {ct elt iter : PySem.Expr} {x y : Str} {px py : Pos} {scope : Scope} {cl : List (Str × Addr)} {pos spos : Pos} {Q : Flow → Shared → Prop} (_F₀ : Fr h₀ env.locals s.heap m) (K : BlockScope scope env cl x)
    (hsw : swapsWith (.ListComp elt [⟨.Name x px, iter, [ct], 0⟩] scope pos) (some (.Name y py)) spos.line env = pure true)
    (target : env.kindOf y = some .local) (plain : (env.scope.kind == .class || (env.scope.kind == .module && env.locals != env.globals)) = false)
    (h : wpAny (model prog w) A (eval iter env) (SrcTupT prog w A h₀ env.locals m env ct elt x scope cl (fun s₂ => FinA h₀ env.locals m s₂ y Q)) E s) (unfolded : ∀ v, foldedSetIterable iter env v = pure v := by intro _; rfl) :
    wpAny (model prog w) A (exec (.Assign [.Name y py] (.ListComp elt [⟨.Name x px, iter, [ct], 0⟩] scope pos) spos) env) Q E s := by
  rw [exec_Assign_Name_used _ _ _ _ hsw]
  refine wpAny_bind (wpAny_standAt (wpAny_bind ?_))
  have taken : wpAny (model prog w) A (comprehension (.ListComp elt [⟨.Name x px, iter, [ct], 0⟩] scope pos) scope env (firstIterPos [⟨.Name x px, iter, [ct], 0⟩] pos) (newList []) false (eval iter env) (some (assign (.Name y py) env))) (fun _ s' => Q .next s') E s := by
    refine wpAny_comprehension_free (use := some (assign (.Name y py) env)) (Q := fun _ s' => Q .next s') rfl unfolded K.clos K.kind K.own (wpAny_mono h ?_ fun _ _ e => e)
    rintro _ s₁ ⟨ax, its, news, rfl, hh, F, N, S, hsz, R⟩
    have B := tup_begun F N S
    refine wpAny_pyIter_tuple (S.tup F.keep N) (LCt.block_T (Walks.tuple hh _ ax B.ne its) hsz (fun _ _ => tup_has) tup_st K.cells K.kind K.var B.st B.low B.F B.N (Nat.ne_of_lt F.ns.lt) (next_is_new F) B.off S (R _ ⟨_, rfl⟩) ?_)
    intro D C h' tk mC ys nw F' N' o1 hn hC _ hCL _ hCD off fin
    refine wpAny_assign_Name (wpAny_storeName_local target F'.ns (fun h₂ hn₂ hs₂ => ?_) plain)
    have gone := Heap.get?_none_of_le F'.above
    have F₂ : Fr h₀ env.locals h₂ (fun z => if z = y then some (.ref D) else m z) :=
      ⟨hn₂, fun b o e => hs₂.extBut b o (by rintro rfl; rw [gone] at e; cases e) (F'.keep b o e), F'.above⟩
    have N₂ : News h₀ env.locals h₂ ((D, lst ys) :: nw) := fun p hp => ⟨hs₂.extBut _ _ (N' p hp).2.1 (N' p hp).1, (N' p hp).2⟩
    refine ⟨mC, hn.sameBut hs₂ hCL, fun h'' hs => ?_⟩
    have z := frame_gone F₂ N₂ hs hCL hC (List.forall_mem_cons.mpr ⟨hCD.symm, off⟩)
    exact fin D h'' _ z.1 z.2 o1
  exact wpAny_bind (wpAny_mono taken (fun _ _ q => wpAny_pure (wpAny_pure q)) fun _ _ e => e)
end
section
variable {prog : Program} {w : World} {A : Around} {E : Value → Shared → Prop} {s : Shared} {h₀ : Heap} {L a b : Addr} {m : Str → Option Value} {news : List (Addr × Obj)} {xs ys : List Value} {Q : Value → Shared → Prop}
theorem all_strOk {ss : List Str} (h : ∀ x ∈ ss, PyData.strOk x = true) : PyData.canLayAll0 (ss.map PyData.str) = true := by
  rw [canLayAll_strs']; exact List.all_eq_true.mpr h
theorem shaped_strs {ss : List Str} (h : ∀ x ∈ ss, PyData.strOk x = true) : SeqAt.shaped (.list (ss.map PyData.str)) = true := by
  simp [SeqAt.shaped, PyData.canLay0, PyData.depth, all_strOk h, depthAll_strs']
theorem same_strs : ∀ ns ms : List Str, PySem.Spec.sameAll (ns.map PyData.str) (ms.map PyData.str) = decide (ns = ms)
  | [], [] => by simp [PySem.Spec.sameAll]
  | [], _ :: _ => by simp [PySem.Spec.sameAll]
  | _ :: _, [] => by simp [PySem.Spec.sameAll]
  | a :: r, b :: t => by
    simp only [List.map_cons, PySem.Spec.sameAll, PySem.Spec.same, same_strs r t]
    by_cases h : a = b <;> by_cases h' : r = t <;> simp [h, h']
theorem ne_strs {ns ms : List Str} (ha : s.heap.IsList a xs.toArray) (hb : s.heap.IsList b ys.toArray) (hi : StrsAre xs ns) (hj : StrsAre ys ms) (h1 : ∀ x ∈ ns, PyData.strOk x = true) (h2 : ∀ x ∈ ms, PyData.strOk x = true)
    (hu : A.units + 64 < cLine) (h : Q (.bool (!decide (ns = ms))) s) : wpAny (model prog w) A (compareOp .NotEq (.ref a) (.ref b)) Q E s :=
  ne_dataH_same (reads_newData ha hi.carried) (reads_newData hb hj.carried) (shaped_strs h1) (shaped_strs h2) hu (SeqAt.noMix_of_shape (.list .str) rfl _ _ (list_map_has fun _ => rfl) (list_map_has fun _ => rfl)) (by
    simp only [PySem.Spec.same]; rw [same_strs]; exact h)
end
end Mine
end

section
open PySem PySem.W PySem.Calls PyProof.Rows PyProof.Rows.LCg
set_option maxRecDepth 100000
namespace Mine
def toldD (ps : List (Str × Str)) : List PyData := ps.map fun p => .tuple [.str p.1, .str p.2]
theorem toldD_reads {h₀ h : Heap} {L : Addr} {nw : List (Addr × Obj)} (N : News h₀ L h nw) : ∀ {vs ps}, PairsIn nw vs ps → ReadsAll h vs (toldD ps) []
  | _, _, .nil => .nil
  | _, _, .cons (t := t) (u := u) hm r => .cons (as := []) (reads_tuple_at (N _ hm).1 rfl rfl (.cons (as := []) (.str _ t) (.cons (as := []) (.str _ u) .nil))) (toldD_reads N r)
theorem toldD_lay : ∀ ps : List (Str × Str), (∀ p ∈ ps, PyData.strOk p.1 = true ∧ PyData.strOk p.2 = true) → PyData.canLayAll0 (toldD ps) = true
  | [], _ => rfl
  | p :: ps, h => by
    show (PyData.canLay0 (.tuple [.str p.1, .str p.2]) && PyData.canLayAll0 (toldD ps)) = true
    rw [toldD_lay ps fun q hq => h q (.tail _ hq)]
    simp [PyData.canLay0, PyData.canLayAll0, h p (.head _)]
theorem toldD_depth : ∀ ps : List (Str × Str), PyData.depthAll (toldD ps) ≤ 1
  | [] => by simp [toldD, PyData.depthAll]
  | p :: ps => by
    have := toldD_depth ps
    show PyData.depthAll (.tuple [.str p.1, .str p.2] :: toldD ps) ≤ 1
    simp only [PyData.depthAll, PyData.depth]
    omega
theorem toldD_eqv : ∀ ps : List (Str × Str), PyData.eqvAll (toldD ps) (toldD ps) = true
  | [] => rfl
  | p :: ps => by
    show PyData.eqvAll (.tuple [.str p.1, .str p.2] :: toldD ps) (.tuple [.str p.1, .str p.2] :: toldD ps) = true
    simp [PyData.eqvAll, PyData.eqv, toldD_eqv ps]
theorem toldD_shaped (ps : List (Str × Str)) (h : ∀ p ∈ ps, PyData.strOk p.1 = true ∧ PyData.strOk p.2 = true) : SeqAt.shaped (.list (toldD ps)) = true := by
  have h1 := toldD_lay ps h
  have h2 := toldD_depth ps
  simp [SeqAt.shaped, PyData.canLay0, PyData.depth, h1]
  omega
section
variable {prog : Program} {w : World} {A : Around} {E : Value → Shared → Prop} {s : Shared} {h₀ : Heap} {L a b d : Addr} {o : Obj} {m : Str → Option Value} {news : List (Addr × Obj)} {xs ys : List Value} {Q : Value → Shared → Prop}
theorem eq_told {ps : List (Str × Str)} {n n' : Nat} (N : News h₀ L s.heap news) (ha : (a, listOf xs.toArray n) ∈ news) (hb : (b, listOf ys.toArray n') ∈ news) (hx : PairsIn news xs ps) (hy : PairsIn news ys ps) (hok : ∀ p ∈ ps, PyData.strOk p.1 = true ∧ PyData.strOk p.2 = true)
    (hu : A.units + 64 < cLine) (h : Q (.bool true) s) : wpAny (model prog w) A (compareOp .Eq (.ref a) (.ref b)) Q E s :=
  eq_dataH (reads_list_at (N _ ha).1 rfl rfl (toldD_reads N hx)) (reads_list_at (N _ hb).1 rfl rfl (toldD_reads N hy)) (toldD_shaped ps hok) (toldD_shaped ps hok) hu (by
    simp only [PyData.eqv]; rw [toldD_eqv]; exact h)
theorem sort_strs {vs : List Value} {ss : List Str} {n : Nat} {Q : Value → Shared → Prop} {D : Addr} (F : Fr h₀ L s.heap m) (N : News h₀ L s.heap ((D, listOf vs.toArray n) :: news)) (ho : ∀ p ∈ news, p.1 ≠ D) (hS : StrsAre vs ss) (h64 : vs.length < 64)
    (h : ∀ h' vs' ss' c, Fr h₀ L h' m → News h₀ L h' ((D, listOf vs'.toArray c) :: news) → StrsAre vs' ss' → ss'.Perm ss → sortedS ss' = true → Q .none { s with heap := h' }) :
    wpAny (model prog w) A (call (.builtin "list.sort") [.ref D]) Q E s := by
  have z := N _ (.head _)
  have hlt : D < s.heap.objs.size := Heap.lt_size z.1
  refine wpAny_call_entry slot_list_sort ⟨_, z.1, rfl⟩ entry_list_sort (list_sort_treeK strKind_oneLt z.1 hS.keysOf (fun v₁ v₂ rest e => keyKind_strs (by rw [← e]; exact hS)) h64 fun st' hp hs => ⟨_, rfl, ?_⟩) (args_list_sort _)
  obtain ⟨ss', h1, h2, h3⟩ := sorted_out_str hS hp hs
  obtain ⟨e, he⟩ := sortedHeap_at (vs := vs) (out := (arrOf st').map (·.2)) z.1
  have kk : ∀ b o, b ≠ D → s.heap.get? b = some o → (sortedHeap s.heap D vs ((arrOf st').map (·.2))).get? b = some o := fun b o hb e => by rw [sortedHeap_old hb (Heap.lt_size e)]; exact e
  refine h _ ((arrOf st').map (·.2)).toList ss' e ⟨F.ns.at' fun o e => kk L o (Ne.symm z.2.1) e, fun b o e => kk b o (fun q => by rw [q, z.2.2] at e; cases e) (F.keep b o e), F.above⟩ (fun p hp => ?_) h1 h2 h3
  rcases List.mem_cons.mp hp with rfl | hp
  · exact ⟨he, z.2⟩
  · exact ⟨kk _ _ (ho p hp) (N p (.tail _ hp)).1, (N p (.tail _ hp)).2⟩
theorem sorted_dictS {kvs : List (Str × Value)} (hh : A.handled = none) (F : Fr h₀ L s.heap m) (N : News h₀ L s.heap news) (hp : (d, o) ∈ news) (hd : o.IsDictOf (PySem.strKind prog w) kvs) (lo : (d == sysModules) = false) (h64 : kvs.length < 64)
    (h : ∀ (B : Addr) h' tk vs ss c, Fr h₀ L h' m → News h₀ L h' ((B, listOf vs.toArray c) :: news) → (∀ q ∈ news, q.1 < B) → StrsAre vs ss → ss.Perm (kvs.map (·.1)) → sortedS ss = true → Q (.ref B) { s with heap := h', toks := tk }) :
    wpAny (model prog w) A (call (.builtin "sorted") [.ref d]) Q E s := by
  obtain ⟨ep, hat⟩ := (kda_dict N hp hd).dictAt
  refine kdu_sorted (kdl_dict (knd := PySem.strKind prog w) (kvs := kvs) (ep := ep) lo) hh F N hat (by rw [sizeLine_eq]; omega) fun B h' tk vs F' N' l1 hl hv => ?_
  have hS : StrsAre vs (kvs.map (·.1)) := by
    refine kdl_openS (C := fun vs => StrsAre vs (kvs.map (·.1))) (keysS_of fun _ q => q) vs hl (fun j u hu => ?_)
    obtain ⟨k, x, hx, hk⟩ := hv j u hu
    exact ⟨k, x, hx, Value.isStrOf_shape hk⟩
  exact sort_strs F' N' (fun p hp => Nat.ne_of_lt (l1 p hp)) hS (by rw [hl]; exact h64) fun h2 vs' ss' c F2 N2 a1 a2 a3 => h B h2 tk vs' ss' c F2 N2 l1 a1 a2 a3
end
end Mine
end

section
open PySem PySem.W PyProof.Rows
set_option maxRecDepth 100000
namespace Mine
theorem cps_of {s : String} {l : List Char} (h : s = String.ofList l) : (Str.ofString s).cps.toList = l.map Char.toNat := by
  subst h; rw [Str.ofString_eq_toList, String.toList_ofList]
def defineL : List Nat := [100, 101, 102, 105, 110, 101]
def KNC : List (List Nat) := KN.map (·.cps.toList)
/-- a text of the table: its first words, its known words, its signs -/
def chk (name : List Nat) (needs : List (List Nat)) (cs : List Nat) : Bool :=
  let ws := wordsL cs
  ws.take 2 == [defineL, name] && needs.all (fun k => ws.contains k) && ws.all (fun x => !KNC.contains x || x == name || needs.contains x) && decide ((ws.filter fun x => KNC.contains x).length ≤ 11) && cs.all (fun c => decide (c < 128)) && decide (cs.length ≤ 4000)
theorem chk_of {name : List Nat} {needs : List (List Nat)} {x : Str} {l : List Char} (h : x.cps.toList = l.map Char.toNat) (hc : chk name needs (l.map Char.toNat) = true) : chk name needs x.cps.toList = true := by rw [h]; exact hc
theorem rowChk : ∀ (i : Nat) (r : Str × List Str × Str), rowsD[i]? = some r → chk r.1.cps.toList (r.2.1.map (·.cps.toList)) r.2.2.cps.toList = true := by
  intro i r h
  have hi : i < 23 := by
    have := (List.getElem?_eq_some_iff.mp h).1
    rw [rows_len] at this; exact this
  match i, hi, h with
  | 0, _, h =>
    obtain rfl := Option.some.inj h
    exact chk_of (cps_of rfl) (by decide +kernel)
  | 1, _, h =>
    obtain rfl := Option.some.inj h
    exact chk_of (cps_of rfl) (by decide +kernel)
  | 2, _, h =>
    obtain rfl := Option.some.inj h
    exact chk_of (cps_of rfl) (by decide +kernel)
  | 3, _, h =>
    obtain rfl := Option.some.inj h
    exact chk_of (cps_of rfl) (by decide +kernel)
  | 4, _, h =>
    obtain rfl := Option.some.inj h
    exact chk_of (cps_of rfl) (by decide +kernel)
  | 5, _, h =>
    obtain rfl := Option.some.inj h
    exact chk_of (cps_of rfl) (by decide +kernel)
  | 6, _, h =>
    obtain rfl := Option.some.inj h
    exact chk_of (cps_of rfl) (by decide +kernel)
  | 7, _, h =>
    obtain rfl := Option.some.inj h
    exact chk_of (cps_of rfl) (by decide +kernel)
  | 8, _, h =>
    obtain rfl := Option.some.inj h
    exact chk_of (cps_of rfl) (by decide +kernel)
  | 9, _, h =>
    obtain rfl := Option.some.inj h
    exact chk_of (cps_of rfl) (by decide +kernel)
  | 10, _, h =>
    obtain rfl := Option.some.inj h
    exact chk_of (cps_of rfl) (by decide +kernel)
  | 11, _, h =>
    obtain rfl := Option.some.inj h
    exact chk_of (cps_of rfl) (by decide +kernel)
  | 12, _, h =>
    obtain rfl := Option.some.inj h
    exact chk_of (cps_of rfl) (by decide +kernel)
  | 13, _, h =>
    obtain rfl := Option.some.inj h
    exact chk_of (cps_of rfl) (by decide +kernel)
  | 14, _, h =>
    obtain rfl := Option.some.inj h
    exact chk_of (cps_of rfl) (by decide +kernel)
  | 15, _, h =>
    obtain rfl := Option.some.inj h
    exact chk_of (cps_of rfl) (by decide +kernel)
  | 16, _, h =>
    obtain rfl := Option.some.inj h
    exact chk_of (cps_of rfl) (by decide +kernel)
  | 17, _, h =>
    obtain rfl := Option.some.inj h
    exact chk_of (cps_of rfl) (by decide +kernel)
  | 18, _, h =>
    obtain rfl := Option.some.inj h
    exact chk_of (cps_of rfl) (by decide +kernel)
  | 19, _, h =>
    obtain rfl := Option.some.inj h
    exact chk_of (cps_of rfl) (by decide +kernel)
  | 20, _, h =>
    obtain rfl := Option.some.inj h
    exact chk_of (cps_of rfl) (by decide +kernel)
  | 21, _, h =>
    obtain rfl := Option.some.inj h
    exact chk_of (cps_of rfl) (by decide +kernel)
  | 22, _, h =>
    obtain rfl := Option.some.inj h
    exact chk_of (cps_of rfl) (by decide +kernel)
theorem woundChk : chk cwcc.cps.toList [wcc.cps.toList] woundD.cps.toList = true := chk_of (cps_of rfl) (by decide +kernel)
theorem ofL_cps (x : Str) : ofL x.cps.toList = x := Str.ext' (by simp [ofL])
theorem ofL_toList (w : List Nat) : (ofL w).cps.toList = w := by simp [ofL]
theorem mem_words {k x : Str} : k ∈ wordsS x ↔ k.cps.toList ∈ wordsL x.cps.toList := by
  unfold wordsS
  rw [List.mem_map]
  constructor
  · rintro ⟨w, h, rfl⟩; rw [ofL_toList]; exact h
  · intro h; exact ⟨_, h, ofL_cps k⟩
theorem mem_codes {k : Str} {l : List Str} : k.cps.toList ∈ l.map (·.cps.toList) ↔ k ∈ l := by
  rw [List.mem_map]
  constructor
  · rintro ⟨x, h, e⟩
    have : x = k := by rw [← ofL_cps x, ← ofL_cps k]; exact congrArg ofL e
    exact this ▸ h
  · intro h; exact ⟨k, h, rfl⟩
theorem contains_codes {k : Str} {l : List Str} : (l.map (·.cps.toList)).contains k.cps.toList = decide (k ∈ l) := by
  rw [List.contains_eq_mem]
  exact decide_eq_decide.mpr mem_codes
/-- the known words of a text -/
def KW (x : Str) : List Str := (wordsS x).filter fun w => decide (w ∈ KN)
structure TextOk (name : Str) (needs : List Str) (x : Str) : Prop where
  head : (wordsS x).take 2 = [Str.ofString "define", name]
  has : ∀ k ∈ needs, k ∈ wordsS x
  only : ∀ k ∈ KW x, k = name ∨ k ∈ needs
  few : (KW x).length ≤ 11
  ascii : x.cps.all (· < 128) = true
  short : x.length ≤ 4000
theorem define_codes : (Str.ofString "define") = ofL defineL := by decide +kernel
theorem textOk_of {name : Str} {needs : List Str} {x : Str} (h : chk name.cps.toList (needs.map (·.cps.toList)) x.cps.toList = true) : TextOk name needs x := by
  unfold chk at h
  simp only [Bool.and_eq_true, decide_eq_true_eq, beq_iff_eq, List.all_eq_true] at h
  obtain ⟨⟨⟨⟨⟨h1, h2⟩, h3⟩, h4⟩, h5⟩, h6⟩ := h
  have h2' : ∀ k ∈ needs, k ∈ wordsS x := fun k hk => by
    have := h2 k.cps.toList (List.mem_map_of_mem hk)
    rw [List.contains_iff_mem] at this
    exact mem_words.mpr this
  have hkw : KW x = ((wordsL x.cps.toList).filter fun w => KNC.contains w).map ofL := by
    unfold KW wordsS
    rw [List.filter_map]
    congr 1
    refine List.filter_congr fun w _ => ?_
    show decide (ofL w ∈ KN) = KNC.contains w
    unfold KNC
    rw [← ofL_toList w, contains_codes, ofL_toList]
  refine ⟨?_, h2', fun k hk => ?_, by rw [hkw, List.length_map]; exact h4, ?_, by show x.cps.size ≤ 4000; rw [← Array.length_toList]; exact h6⟩
  · unfold wordsS
    rw [← List.map_take, h1, List.map_cons, List.map_cons, List.map_nil, ofL_cps, define_codes]
  · unfold KW at hk
    rw [List.mem_filter] at hk
    have hw := mem_words.mp hk.1
    have h3' := h3 _ hw
    simp only [Bool.or_eq_true, Bool.not_eq_true', beq_iff_eq] at h3'
    rcases h3' with (h | h) | h
    · unfold KNC at h
      rw [contains_codes] at h
      rw [h] at hk
      exact absurd hk.2 Bool.false_ne_true
    · left; rw [← ofL_cps k, ← ofL_cps name, h]
    · right
      rw [contains_codes] at h
      exact of_decide_eq_true h
  · rw [← Array.all_toList, List.all_eq_true]
    intro c hc
    exact decide_eq_true (h5 c hc)
theorem row_ok {i : Nat} {r : Str × List Str × Str} (h : rowsD[i]? = some r) : TextOk r.1 r.2.1 r.2.2 := textOk_of (rowChk i r h)
theorem wound_ok : TextOk cwcc [wcc] woundD := textOk_of woundChk
theorem kn_strOk : ∀ k ∈ KN, PyData.strOk k = true := by decide +kernel
theorem strOk_of_ascii {x : Str} (h : x.cps.all (· < 128) = true) : PyData.strOk x = true := by
  unfold PyData.strOk
  rw [← Array.all_toList, List.all_eq_true] at h ⊢
  intro c hc
  have := of_decide_eq_true (h c hc)
  exact decide_eq_true (by omega)
theorem cwcc_known : cwcc ∈ KN := by decide +kernel
theorem wcc_known : wcc ∈ KN := by decide +kernel
theorem cwcc_needs : needsOf cwcc = [] := by decide +kernel
theorem callcc_needs : needsOf (Str.ofString "call/cc") = [cwcc] := by decide +kernel
theorem wcc_unneeded : ∀ r ∈ rowsD, wcc ∉ r.2.1 := by decide +kernel

/-- what is told -/
theorem mem_toldL {xs : List Str} {k x : Str} : (k, x) ∈ toldL xs ↔ ∃ (i : Nat) (r : Str × List Str × Str), rowsD[i]? = some r ∧ Told1 xs r.1 ∧ k = r.1 ∧ x = textW xs r := by
  unfold toldL toldN
  rw [List.take_of_length_le (by rw [rows_len]; exact Nat.le_refl _), List.mem_map]
  constructor
  · rintro ⟨r, h, e⟩
    rw [List.mem_filter] at h
    obtain ⟨i, hi⟩ := List.getElem?_of_mem h.1
    cases e
    exact ⟨i, r, hi, inTold_iff.mp h.2, rfl, rfl⟩
  · rintro ⟨i, r, hi, ht, rfl, rfl⟩
    exact ⟨r, List.mem_filter.mpr ⟨List.mem_of_getElem? hi, inTold_iff.mpr ht⟩, rfl⟩
theorem toldL_keys (xs : List Str) : (toldL xs).map (·.1) = KN.filter (inTold xs) := by
  unfold toldL toldN KN
  rw [List.take_of_length_le (by rw [rows_len]; exact Nat.le_refl _), List.map_map, List.filter_map]
  rfl
theorem toldL_nodup (xs : List Str) : ((toldL xs).map (·.1)).Nodup := by rw [toldL_keys]; exact kn_nodup.filter _
theorem toldL_known (xs : List Str) : ∀ k ∈ (toldL xs).map (·.1), k ∈ KN ∧ Told1 xs k := by
  intro k h
  rw [toldL_keys, List.mem_filter] at h
  exact ⟨h.1, inTold_iff.mp h.2⟩
theorem told_key {xs : List Str} {k : Str} (h : Told1 xs k) : k ∈ (toldL xs).map (·.1) := by
  rw [toldL_keys, List.mem_filter]
  exact ⟨h.known, inTold_iff.mpr h⟩
theorem keys_filter (xs : List Str) : KN.filter (fun k => decide (k ∈ (toldL xs).map (·.1))) = (toldL xs).map (·.1) := by
  rw [toldL_keys]
  refine List.filter_congr fun k hk => ?_
  cases h : inTold xs k with
  | true => exact decide_eq_true (List.mem_filter.mpr ⟨hk, h⟩)
  | false => exact decide_eq_false fun q => Bool.false_ne_true (h.symm.trans (List.mem_filter.mp q).2)
/-- a told text is the row's, or the wound one -/
theorem told_text {xs : List Str} {k x : Str} (h : (k, x) ∈ toldL xs) : Told1 xs k ∧ ((∃ (i : Nat) (r : Str × List Str × Str), rowsD[i]? = some r ∧ k = r.1 ∧ x = r.2.2 ∧ ¬ (k = cwcc ∧ Told1 xs wcc)) ∨ (k = cwcc ∧ Told1 xs wcc ∧ x = woundD)) := by
  obtain ⟨i, r, hr, ht, rfl, rfl⟩ := mem_toldL.mp h
  refine ⟨ht, ?_⟩
  by_cases hw : r.1 = cwcc ∧ Told1 xs wcc
  · exact .inr ⟨hw.1, hw.2, textW_wound hw⟩
  · exact .inl ⟨i, r, hr, rfl, textW_plain hw, hw⟩
theorem told_ok {xs : List Str} {k x : Str} (h : (k, x) ∈ toldL xs) : ∃ needs, TextOk k needs x := by
  rcases (told_text h).2 with ⟨i, r, hr, rfl, rfl, _⟩ | ⟨rfl, _, rfl⟩
  · exact ⟨_, row_ok hr⟩
  · exact ⟨_, wound_ok⟩
theorem told_words {xs : List Str} {k x j : Str} (h : (k, x) ∈ toldL xs) (hj : j ∈ KW x) : Told1 xs j := by
  obtain ⟨ht, ⟨i, r, hr, rfl, rfl, _⟩ | ⟨rfl, hw, rfl⟩⟩ := told_text h
  · rcases (row_ok hr).only j hj with rfl | hj
    · exact ht
    · exact .step ht (by rw [needsOf_row hr]; exact hj)
  · rcases wound_ok.only j hj with rfl | hj
    · exact ht
    · rw [List.mem_singleton.mp hj]; exact hw
end Mine
end

section
open PySem PySem.W PyProof.Rows
set_option maxRecDepth 100000
namespace Mine
/-- what holds between the turns of _law_reached -/
structure RInv (xs F ws : List Str) (n : Nat) : Prop where
  nodup : F.Nodup
  inF : ∀ k ∈ F, Told1 xs k
  inW : ∀ k ∈ ws, Told1 xs k
  all : ∀ x ∈ xs, x ∈ KN → x ∈ F ∨ x ∈ ws
  shut : ∀ k ∈ F, ∃ x, (k, x) ∈ toldL xs ∧ ∀ j ∈ KW x, j ∈ F ∨ j ∈ ws
  meas : n = ws.length + 12 * (23 - F.length)
  few : F.length ≤ 23
  bound : n ≤ 2000
theorem RInv.start {xs : List Str} (h : xs.length ≤ 1000) : RInv xs [] (xs.filter fun x => decide (x ∈ KN)) ((xs.filter fun x => decide (x ∈ KN)).length + 12 * 23) := by
  have hl := List.length_filter_le (fun x => decide (x ∈ KN)) xs
  refine ⟨.nil, (fun _ h => nomatch h), fun k hk => ?_, fun x h1 h2 => .inr (List.mem_filter.mpr ⟨h1, decide_eq_true h2⟩), (fun _ h => nomatch h), rfl, by simp, by omega⟩
  obtain ⟨h1, h2⟩ := List.mem_filter.mp hk
  have h2' : k ∈ KN := of_decide_eq_true h2
  unfold Told1 xsW
  split
  · exact .base (List.mem_append_left _ h1) h2'
  · exact .base h1 h2'
theorem RInv.known {xs F ws : List Str} {x : Str} {n : Nat} (I : RInv xs F (ws ++ [x]) n) (hx : x ∈ F) : RInv xs F ws (ws.length + 12 * (23 - F.length)) ∧ ws.length + 12 * (23 - F.length) < n := by
  have hm := I.meas
  simp only [List.length_append, List.length_singleton] at hm
  have hb := I.bound
  have drop : ∀ j, j ∈ F ∨ j ∈ ws ++ [x] → j ∈ F ∨ j ∈ ws := fun j h => by
    rcases h with h | h
    · exact .inl h
    · rcases List.mem_append.mp h with h | h
      · exact .inr h
      · rw [List.mem_singleton.mp h]; exact .inl hx
  refine ⟨⟨I.nodup, I.inF, fun k h => I.inW k (List.mem_append_left _ h), fun y h1 h2 => drop y (I.all y h1 h2), fun k h => ?_, rfl, I.few, by omega⟩, by omega⟩
  obtain ⟨t, h1, h2⟩ := I.shut k h
  exact ⟨t, h1, fun j hj => drop j (h2 j hj)⟩
theorem RInv.put {xs F ws : List Str} {x t : Str} {n : Nat} (I : RInv xs F (ws ++ [x]) n) (hx : x ∉ F) (ht : (x, t) ∈ toldL xs) :
    RInv xs (F ++ [x]) (ws ++ KW t) ((ws ++ KW t).length + 12 * (23 - (F ++ [x]).length)) ∧ (ws ++ KW t).length + 12 * (23 - (F ++ [x]).length) < n := by
  have hm := I.meas
  have hb := I.bound
  have hc : Told1 xs x := (told_text ht).1
  have hnd : (F ++ [x]).Nodup := by
    rw [List.nodup_append]
    exact ⟨I.nodup, by simp, fun a ha b hb e => hx (by rw [List.mem_singleton.mp hb] at e; exact e ▸ ha)⟩
  have hF : ∀ k ∈ F ++ [x], Told1 xs k := fun k h => (List.mem_append.mp h).elim (I.inF k) fun h => by rw [List.mem_singleton.mp h]; exact hc
  have hfew := nodup_few hnd fun k h => (hF k h).known
  obtain ⟨_, ok⟩ := told_ok ht
  have h4 := ok.few
  have move : ∀ j, j ∈ F ∨ j ∈ ws ++ [x] → j ∈ F ++ [x] ∨ j ∈ ws ++ KW t := fun j h => by
    rcases h with h | h
    · exact .inl (List.mem_append_left _ h)
    · rcases List.mem_append.mp h with h | h
      · exact .inr (List.mem_append_left _ h)
      · exact .inl (List.mem_append_right _ h)
  simp only [List.length_append, List.length_singleton] at hm hfew ⊢
  refine ⟨⟨hnd, hF, fun k h => ?_, fun y h1 h2 => move y (I.all y h1 h2), fun k h => ?_, by simp only [List.length_append, List.length_singleton], by simp only [List.length_append, List.length_singleton]; omega, by omega⟩, by omega⟩
  · rcases List.mem_append.mp h with h | h
    · exact I.inW k (List.mem_append_left _ h)
    · exact told_words ht h
  · rcases List.mem_append.mp h with h | h
    · obtain ⟨u, h1, h2⟩ := I.shut k h
      exact ⟨u, h1, fun j hj => move j (h2 j hj)⟩
    · rw [List.mem_singleton.mp h]
      exact ⟨t, ht, fun j hj => .inr (List.mem_append_right _ hj)⟩
theorem RInv.done {xs F : List Str} {n : Nat} (I : RInv xs F [] n) (k : Str) : k ∈ F ↔ Told1 xs k := by
  refine ⟨I.inF k, ?_⟩
  have shut : ∀ k ∈ F, ∃ x, (k, x) ∈ toldL xs ∧ ∀ j ∈ KW x, j ∈ F := fun k h => by
    obtain ⟨x, h1, h2⟩ := I.shut k h
    exact ⟨x, h1, fun j hj => (h2 j hj).resolve_right (by simp)⟩
  have step : ∀ k j, k ∈ F → j ∈ needsOf k → j ∈ F := fun k j hk hj => by
    obtain ⟨x, h1, h2⟩ := shut k hk
    rcases (told_text h1).2 with ⟨i, r, hr, rfl, rfl, _⟩ | ⟨rfl, _, _⟩
    · rw [needsOf_row hr] at hj
      exact h2 j (List.mem_filter.mpr ⟨(row_ok hr).has j hj, decide_eq_true (needs_known r (List.mem_of_getElem? hr) j hj)⟩)
    · rw [cwcc_needs] at hj; exact absurd hj (by simp)
  have base : ∀ k, Cl xs k → k ∈ F := fun k hk => Cl.least (S := fun k => k ∈ F) (fun x h1 h2 => (I.all x h1 h2).resolve_right (by simp)) step hk
  intro hk
  unfold Told1 xsW at hk
  split at hk
  · rename_i hw
    refine Cl.least (S := fun k => k ∈ F) (fun x h1 h2 => ?_) step hk
    rcases List.mem_append.mp h1 with h1 | h1
    · exact base x (.base h1 h2)
    · rw [List.mem_singleton.mp h1]
      have hT : Told1 xs wcc := by unfold Told1 xsW; rw [if_pos hw]; exact .base (List.mem_append_right _ (List.mem_singleton.mpr rfl)) wcc_known
      have hc : Cl xs cwcc := by
        obtain ⟨t, ht, hct⟩ := hw.2
        rcases List.mem_cons.mp ht with rfl | ht
        · exact hct
        · rw [List.mem_singleton.mp ht] at hct
          exact .step hct (by rw [show ("call/cc" : Str) = Str.ofString "call/cc" from rfl, callcc_needs]; exact List.mem_singleton.mpr rfl)
      obtain ⟨x, h3, h4⟩ := shut cwcc (base _ hc)
      rcases (told_text h3).2 with ⟨_, _, _, _, _, hn⟩ | ⟨_, _, rfl⟩
      · exact absurd ⟨rfl, hT⟩ hn
      · exact h4 wcc (List.mem_filter.mpr ⟨wound_ok.has wcc (List.mem_singleton.mpr rfl), decide_eq_true wcc_known⟩)
  · exact base k hk
/-- sorted is one -/
theorem ltCps_total {a b : List Nat} (h1 : PySem.Spec.ltCps a b = false) (h2 : PySem.Spec.ltCps b a = false) : a = b := by
  rw [ltCps_eq] at h1 h2
  have h1' := of_decide_eq_false h1
  have h2' := of_decide_eq_false h2
  exact List.le_antisymm (List.not_lt.mp h2') (List.not_lt.mp h1')
theorem le_of_ltCps {a b : List Nat} (h : PySem.Spec.ltCps b a = false) : a ≤ b := by
  rw [ltCps_eq] at h
  exact List.not_lt.mp (of_decide_eq_false h)
theorem rising_pairwise : ∀ (l : List Str) (p : Str), risingS p l = true → (p :: l).Pairwise (fun a b => a.cps.toList ≤ b.cps.toList)
  | [], p, _ => by simp
  | x :: r, p, h => by
    have h' : (!PySem.Spec.ltCps x.cps.toList p.cps.toList && risingS x r) = true := h
    rw [Bool.and_eq_true, Bool.not_eq_true'] at h'
    have ih := rising_pairwise r x h'.2
    have hpx := le_of_ltCps h'.1
    rw [List.pairwise_cons]
    refine ⟨fun y hy => ?_, ih⟩
    rcases List.mem_cons.mp hy with rfl | hy
    · exact hpx
    · exact List.le_trans hpx ((List.pairwise_cons.mp ih).1 y hy)
theorem sorted_pairwise : ∀ (l : List Str), sortedS l = true → l.Pairwise (fun a b => a.cps.toList ≤ b.cps.toList)
  | [], _ => .nil
  | x :: r, h => rising_pairwise r x h
theorem sorted_uniq : ∀ {a b : List Str}, a.Perm b → sortedS a = true → sortedS b = true → a = b := by
  intro a b hp ha hb
  refine List.Perm.eq_of_pairwise (fun x y _ _ h1 h2 => ?_) (sorted_pairwise a ha) (sorted_pairwise b hb) hp
  rw [← ofL_cps x, ← ofL_cps y]
  exact congrArg ofL (List.le_antisymm h1 h2)
/-- two key lists of the same keys sort alike -/
theorem sorted_same {a b ka kb : List Str} (ha : a.Perm ka) (hb : b.Perm kb) (sa : sortedS a = true) (sb : sortedS b = true) (na : ka.Nodup) (nb : kb.Nodup) (h : ∀ k, k ∈ ka ↔ k ∈ kb) : a = b :=
  sorted_uniq (ha.trans ((List.perm_ext_iff_of_nodup na nb).mpr h |>.trans hb.symm)) sa sb
theorem cl_wcc {xs : List Str} (h : Cl xs wcc) : wcc ∈ xs := by
  cases h with
  | base h _ => exact h
  | step _ h =>
    rename_i j _
    unfold needsOf at h
    cases hf : rowsD.find? (fun r => r.1 == j) with
    | none => rw [hf] at h; exact absurd h (by simp)
    | some r => rw [hf] at h; exact absurd h (wcc_unneeded r (List.mem_of_find?_eq_some hf))
/-- continuations go through winders exactly if .. -/
theorem wound_iff {xs : List Str} (hc : Told1 xs cwcc) : Told1 xs wcc ↔ (∃ k ∈ windL, Told1 xs k) ∨ wcc ∈ xs := by
  have up : ∀ k, Cl xs k → Told1 xs k := fun k h => by
    unfold Told1 xsW; split
    · exact cl_append.mpr (.inl h)
    · exact h
  constructor
  · intro h
    by_cases hw : Wnd xs
    · obtain ⟨k, h1, h2⟩ := hw.1
      exact .inl ⟨k, h1, up k h2⟩
    · right
      unfold Told1 xsW at h
      rw [if_neg hw] at h
      exact cl_wcc h
  · rintro (⟨k, h1, h2⟩ | h)
    · by_cases hw : Wnd xs
      · unfold Told1 xsW; rw [if_pos hw]
        exact .base (List.mem_append_right _ (List.mem_singleton.mpr rfl)) wcc_known
      · refine absurd ⟨⟨k, h1, ?_⟩, ⟨cwcc, .head _, ?_⟩⟩ hw
        · unfold Told1 xsW at h2; rwa [if_neg hw] at h2
        · unfold Told1 xsW at hc; rwa [if_neg hw] at hc
    · exact up _ (.base h wcc_known)
/-- the told text of the continuation has the wound name exactly if it is told -/
theorem wound_text {xs : List Str} {x : Str} (h : (cwcc, x) ∈ toldL xs) : wcc ∈ wordsS x ↔ Told1 xs wcc := by
  rcases (told_text h).2 with ⟨i, r, hr, e, rfl, hn⟩ | ⟨_, hw, rfl⟩
  · constructor
    · intro hm
      have := (row_ok hr).only wcc (List.mem_filter.mpr ⟨hm, decide_eq_true wcc_known⟩)
      rcases this with h' | h'
      · rw [← e] at h'; exact absurd h' (by decide)
      · exact absurd h' (wcc_unneeded r (List.mem_of_getElem? hr))
    · intro ht; exact absurd ⟨rfl, ht⟩ hn
  · exact ⟨fun _ => hw, fun _ => wound_ok.has wcc (List.mem_singleton.mpr rfl)⟩
end Mine
end

section
open PySem PySem.W PyProof.Rows PyProof.Rows.LCg
namespace Mine
local macro_rules | `(tactic| walk_at "eval Name") => `(tactic| (k_here; k_dflt (refine' nameX_L ?k1 ?k2 ?_; (case k1 => k_asm); (case k2 => ((try dsimp only); (repeat (refine (if_neg (by decide)).trans ?_)); first | exact if_pos rfl | assumption)); k_whole)))
local macro_rules | `(tactic| k_all) => `(tactic| assumption)
local macro_rules | `(tactic| walk_at "eval ListComp") => `(tactic| refine halt ?_)
example : Here PySem.Challenge.rw_nt0256_01 hd.heap_39 True := by
  k_fill
  exact here_of trivial
set_option maxRecDepth 100000
set_option maxHeartbeats 4000000
theorem off1_all {D : Addr} : ∀ {l : List (Addr × Obj)}, LCg.Off1 D l → ∀ p ∈ l, p.1 ≠ D
  | [], _, _, h => nomatch h
  | _ :: _, x, p, h => by
    rcases List.mem_cons.mp h with rfl | h
    · exact x.1
    · exact off1_all x.2 p h
theorem prelude_names_c (w : World) (news : List (Addr × Obj)) :
    Ctr w 75 [] news 10 50 (fun r nw => ∃ kl vs n, r = .ref kl ∧ nw = (kl, listOf vs.toArray n) :: news ∧ StrsAre vs KN ∧ ∀ q ∈ news, q.1 ≠ kl) := by
  unfold Ctr
  intro p loose mean mg mb dp un gd cn cs a ccd cl outer A₀ base h₀ L m s Q E B F X N T hk hd hu hret
  refine wpAny_call ?_
  k_dflt ktr_enter
  rename_i g L' h₁ FG F' N' B' X' T'
  k_steps
  refine unhalt ?_
  obtain ⟨n61, h61⟩ := rows_tup w
  refine ListComp_tup F' (cl := []) ⟨by with_unfolding_all rfl, by decide, by rfl, by decide, by rfl⟩ ?_
  walk1
  refine ⟨61, _, news, rfl, rfl, F', N', .inl (tupK X' h61), by rw [List.size_toArray, List.length_map, List.length_range, sizeLine_eq]; decide, ?_⟩
  rintro s₂ ⟨h2, rfl⟩
  refine rest_inv (fun i ys nw => nw = news ∧ StrsAre ys (KN.take i)) ?_ ?_ _ 0 [] _ (Nat.zero_add _) ⟨rfl, .nil⟩
  · rintro i v ys nw I oI C oC D m₂ h tk E' hi hv ⟨rfl, hys⟩ hC hx F N off n1 n2 n3
    have hi' : i < 23 := by simpa using hi
    have hv' : v = .ref (16 + 2 * i) := by
      simp only [List.getElem?_toArray, List.getElem?_map, List.getElem?_range hi', Option.map_some, Option.some.injEq] at hv
      exact hv.symm
    subst hv'
    obtain ⟨r, hr⟩ : ∃ r, rowsD[i]? = some r := ⟨rowsD[i]'(by rw [rows_len]; exact hi'), List.getElem?_eq_getElem _⟩
    obtain ⟨⟨t1, u1, n1', hrow⟩, _⟩ := rowIn w i r hr
    refine Subscript_ ?_
    k_steps
    refine item_tupleT (l := [.str r.1 t1, .ref (15 + 2 * i), .str r.2.2 u1]) (j := 0) (tupK (X'.keeps F.keep) hrow) (by decide) (by decide) rfl rfl ?_ (by with_unfolding_all rfl)
    refine LCg.CompEnd.intro F N _ (fun _ h => h) off (.inl (tupK X' h61)) ⟨rfl, ?_⟩
    have hk : KN[i]? = some r.1 := by unfold KN; rw [List.getElem?_map, hr]; rfl
    rw [List.take_add_one, hk]
    exact StrsAre.append' hys (.cons _ _ .nil)
  · rintro ys nw ⟨rfl, hys⟩
    unfold LCg.FinE
    intro D h tk F3 N3 o3
    k_steps
    (rename Fr _ _ _ _ => F9); (rename News _ _ _ _ => N9)
    refine hret _ _ _ _ F9 N9 ⟨D, ys, _, rfl, rfl, ?_, off1_all o3⟩
    rw [List.size_toArray, List.length_map, List.length_range] at hys
    rw [List.take_of_length_le (by rw [kn_len]; exact Nat.le_refl _)] at hys
    exact hys
end Mine
end

section
open PySem PySem.W PyProof.Rows PyProof.Rows.LCg
namespace Mine
local macro_rules | `(tactic| k_all) => `(tactic| assumption)
local macro_rules | `(tactic| walk_at "eval ListComp") => `(tactic| refine halt ?_)
local macro_rules | `(tactic| walk_at "exec Assign cons ListComp") => `(tactic| refine halt ?_)
local macro_rules | `(tactic| walk_at "subscriptTail Name Slice ref ref") => `(tactic| refine halt ?_)
local macro_rules | `(tactic| walk_at "call builtin:abs") => `(tactic| refine halt ?_)
local macro_rules | `(tactic| walk_at "call builtin:len") => `(tactic| refine halt ?_)
local macro_rules | `(tactic| walk_at "binaryOp Add ref ref") => `(tactic| refine halt ?_)
example : Here PySem.Challenge.rw_nt0256_01 hd.heap_39 True := by
  k_fill
  exact here_of trivial
set_option maxRecDepth 100000
set_option maxHeartbeats 4000000
theorem news_25 {h₀ h : Heap} {L : Addr} {a b c d e : Addr × Obj} {r : List (Addr × Obj)} (N : News h₀ L h (a :: b :: c :: d :: e :: r)) : News h₀ L h (a :: b :: r) := fun p hp => N p (by
  rcases List.mem_cons.mp hp with rfl | hp
  · exact .head _
  · rcases List.mem_cons.mp hp with rfl | hp
    · exact .tail _ (.head _)
    · exact .tail _ (.tail _ (.tail _ (.tail _ (.tail _ hp)))))
theorem law_deck_c (w : World) (sa : Addr) (svs : List Value) (ns : List Int) (news : List (Addr × Obj)) (hsi : IntsAre svs ns) (hsl : ns.length ≤ 63) (p : Program) (loose : List Str) (mean : ExcName → Option Value) (mg mb : Str → Option Value) (dp un : Nat) (gd : Option (List Code)) (cn : Str) (cs : Scope) (a : Addr) (ccd : Value) (cl : List (Str × Addr)) (outer : List Env) (A₀ : Around) (base h₀ : Heap) (L : Addr) (m : Str → Option Value) (s : Shared) (Q E : Value → Shared → Prop)
    (B : Below A₀ base outer h₀) (F : Fr h₀ L s.heap m) (X : (Mine.hd.heap_39 w.params).In h₀) (N : News h₀ L s.heap news) (T : Top p loose mean mg mb h₀) (hk : cs.kind = .function) (hd : dp + 10 < recursionLimit) (hu : un + 50 < cLine) (hs : h₀.IsList sa svs.toArray)
    (hret : ∀ dk cla cvs ks nd nc tj h' tk', Fr h₀ L h' m → News h₀ L h' ((dk, listOf [.ref cla, .int 0 tj].toArray nd) :: (cla, listOf cvs.toArray nc) :: news) → (∀ q ∈ news, q.1 < cla) → cla < dk → IntsAre cvs ks → 0 < ks.length → ks.length ≤ 100 → Q (.ref dk) { s with heap := h', toks := tk' }) :
    wpAny (model PG w) (ktrTop dp un gd cn cs L a ccd cl outer) (call (.ref 97) [.ref sa]) Q E s := by
  refine wpAny_call ?_
  k_dflt ktr_enter
  rename_i g L' h₁ FG F' N' B' X' T'
  k_steps
  refine unhalt ?_
  refine LCg.Assign_ListComp_U F' (by rfl) (by with_unfolding_all rfl) (by with_unfolding_all rfl) (by decide) (by rfl) (by decide) (by rfl) (by rfl) (by rfl) ?_
  k_steps
  refine unhalt ?_
  have hs' : h₁.IsList sa svs.toArray := hs.at fun o e => F'.keep _ _ (FG.keep _ _ e)
  have hsv : svs.length = ns.length := hsi.length
  refine kmk_slice_ints (hi := some 24) (lo := none) F' N' hs' IsPart.none (IsPart.int _ _) hsi (kmk_upto hsi (by decide)) rfl ?_ (by with_unfolding_all rfl) (by intro _; with_unfolding_all rfl) (by rw [List.size_toArray, hsv, sizeLine_eq]; omega)
  intro D ws h2 F2 N2 l2 hws _ hwl
  have hwn : ws.length ≤ 63 := by rw [hws.length]; omega
  refine LCg.CompSrc.ledger rfl F2 N2 (.head _) (by rw [List.size_toArray, sizeLine_eq]; omega) ?_
  intro g3
  refine rest_inv (fun i ys nw => nw = (D, listOf ws.toArray 0) :: news ∧ ys.length = i ∧ ∃ ks, IntsAre ys ks) ?_ ?_ _ 0 [] _ (Nat.zero_add _) ⟨rfl, rfl, [], .nil⟩
  · rintro i v ys nw I oI C oC D2 m₂ h tk E' hi hv ⟨rfl, hyl, ks, hys⟩ hC hx F N off n1 n2 n3
    obtain ⟨x, t, rfl⟩ : ∃ x t, v = .int x t := by
      have hv' : ws[i]? = some v := by simpa using hv
      obtain ⟨t, e⟩ := hws.int_at i v hv'
      exact ⟨_, t, e⟩
    k_steps
    refine unhalt ?_
    refine call_abs_int fun u tk' => ?_
    refine LCg.CompEnd.intro F N _ (fun _ h => h) off (.inr ⟨_, .head _, rfl, _, rfl⟩) ⟨rfl, by rw [List.length_append, hyl]; rfl, ks ++ [_], hys.append (.cons _ _ .nil)⟩
  · rintro ys nw ⟨rfl, hyl, ks, hys⟩
    unfold LCg.FinA
    intro D4 h4 tk4 F4 N4 o4
    rw [List.size_toArray] at hyl
    k_steps
    refine unhalt ?_
    refine len_list (N4.isList (.head _)) (by rw [List.size_toArray, hyl]; omega) ?_
    rw [List.size_toArray, hyl]
    k_steps
    refine unhalt ?_
    (rename Fr _ _ _ _ => F5); (rename News _ _ _ _ => N5)
    refine kmk_add_lit F5 N5 (N5.isList (.tail _ (.head _))) (N5.isList (.head _)) rfl ?_ ?_
    · intro D6 h6 F6 N6 l6
      clear F5 N5
      k_steps
      (rename Fr _ _ _ _ => F9); (rename News _ _ _ _ => N9)
      (rename D6 < _ ∧ _ => ld)
      refine hret _ _ _ _ _ _ _ _ _ F9 (news_25 N9) (fun q hq => l6 q (.tail _ (.tail _ (.tail _ hq)))) ld.1 (hys.append (.cons _ _ .nil)) (by rw [List.length_append]; simp) ?_
      rw [List.length_append, List.length_singleton, ← hys.length, hyl]; omega
    · simp only [List.length_cons, List.length_nil]
      rw [sizeLine_eq]; omega
end Mine
end

section
open PySem PySem.W PyProof.Rows PyProof.Rows.LCg
namespace Mine
local macro_rules | `(tactic| ktr_unf) => `(tactic| (refine' code_defC ?k1 ?k2 ?k3 ?k4 ?k5 ?kA ?kF ?kK ?k6 ?k7 ?k8 ?k9 ?kB ?kD ?_ ?c2 ?c3 ?c4; (case kA => exact rfl); (case kF => exact rfl); (case kK => assumption); (case k1 => k_asm); (case k2 => k_asm); (case k3 => k_asm); (case k4 => k_asm); (case k5 => k_asm); (case k6 => k_is); (case k7 => k_is); (case k8 => ktr_room); (case k9 => exact BindsTo.of_eq rfl); (case kB => exact rfl); (case kD => decide +kernel); (case c2 => exact rfl); (case c3 => exact rfl); (case c4 => exact rfl); k_whole; intro g' L' h' tk' cells' FG' F' N' Y' B' X' T' l1; k_cells Y'; (try simp only [List.cons_append, List.nil_append] at N'); (try dsimp only); (try k_fold)))
local macro_rules | `(tactic| walk_at "eval Name") => `(tactic| (k_here; k_dflt (refine' nameX_L ?k1 ?k2 ?_; (case k1 => k_asm); (case k2 => ((try dsimp only); (repeat (refine (if_neg (by decide)).trans ?_)); first | exact if_pos rfl | assumption)); k_whole)))
local macro_rules | `(tactic| k_all) => `(tactic| assumption)
local macro_rules | `(tactic| walk_at "eval ListComp") => `(tactic| refine halt ?_)
local macro_rules | `(tactic| walk_at "exec Assign cons ListComp") => `(tactic| refine halt ?_)
local macro_rules | `(tactic| walk_at "exec While Compare cons nil") => `(tactic| refine halt ?_)
local macro_rules | `(tactic| walk_at "compareOp NotEq ref ref") => `(tactic| refine halt ?_)
local macro_rules | `(tactic| walk_at "compareOp NotIn str ref") => `(tactic| refine halt ?_)
local macro_rules | `(tactic| walk_at "compareOp In str ref") => `(tactic| refine halt ?_)
local macro_rules | `(tactic| walk_at "setItem ref str") => `(tactic| refine halt ?_)
local macro_rules | `(tactic| walk_at "subscriptTail Name Name ref str") => `(tactic| refine halt ?_)
local macro_rules | `(tactic| walk_at "call ref") => `(tactic| refine halt ?_)
local macro_rules | `(tactic| walk_at "call builtin:list.pop") => `(tactic| refine halt ?_)
local macro_rules | `(tactic| walk_at "binaryOp Add ref ref") => `(tactic| refine halt ?_)
example : Here PySem.Challenge.rw_nt0256_01 hd.heap_39 True := by
  k_fill
  exact here_of trivial
set_option maxRecDepth 100000
set_option maxHeartbeats 4000000
theorem words_len (y : Str) : (wordsS y).length ≤ y.cps.size + 1 := by
  unfold wordsS wordsL
  rw [List.length_map]
  have h := stepL_len (y.cps.toList ++ [32]) ([], [])
  simp only [List.length_append, Array.length_toList, List.length_singleton, List.length_nil] at h
  omega
theorem any_mem {l : List Str} {x : Str} : (l.any fun y => y == x) = decide (x ∈ l) := by
  by_cases h : x ∈ l
  · rw [decide_eq_true h]; exact List.any_eq_true.mpr ⟨x, h, by simp⟩
  · rw [decide_eq_false h]
    refine List.any_eq_false.mpr fun y hy e => h ?_
    rw [← eq_of_beq e]; exact hy
theorem law_reached_c (w : World) (al kl td : Addr) (avs kvs0 : List Value) (n1 n2 : Nat) (xs : List Str) (tdo : Obj) (tkv : List (Str × Value)) (news : List (Addr × Obj))
    (ha : (al, listOf avs.toArray n1) ∈ news) (hax : StrsAre avs xs) (hlen : xs.length ≤ 500) (hk0 : (kl, listOf kvs0.toArray n2) ∈ news) (hkk : StrsAre kvs0 KN)
    (htd : (td, tdo) ∈ news) (lod : (td == sysModules) = false) (htdd : tdo.IsDictOf (PySem.strKind PG w) tkv) (htv : StrVals tkv (toldL xs)) :
    Ctr w 123 [.ref al, .ref kl, .ref td] news 20 100 (fun r nw => ∃ d o kvs, r = .ref d ∧ nw = (d, o) :: news ∧ (∀ p ∈ news, p.1 < d) ∧ (d == sysModules) = false ∧ o.IsDictOf (PySem.strKind PG w) kvs ∧ ∀ k, k ∈ kvs.map (·.1) ↔ Told1 xs k) := by
  unfold Ctr
  intro p loose mean mg mb dp un gd cn cs a ccd cl outer A₀ base h₀ L m s Q E B F X N T hk hd hu hret
  refine wpAny_call ?_
  k_dflt ktr_unf
  rename_i g L' h₁ tk1 FG F' B' X' T' l1 o1 d1 N'
  have hc0 : o1.data = .cell (some (.ref kl)) := d1
  clear d1
  have hnc : ∀ p ∈ news, p.1 < L' := l1
  obtain ⟨mF, hma, hmt, F1⟩ : ∃ mF : Str → Option Value, mF "asked" = some (.ref al) ∧ mF "texts" = some (.ref td) ∧ Fr g L' h₁ mF := ⟨_, rfl, rfl, F'⟩
  clear F'
  k_steps
  refine unhalt ?_
  rename_i d0 h2 od F2 N2 lo0 hs0 _ _ _ l2
  have hcd : L' + 1 < d0 := l2.1
  have hxl : avs.length = xs.length := hax.length
  refine LCt.ListComp_T F2 (cl := [("known", L' + 1)]) (by with_unfolding_all rfl) (by decide) (by rfl) (by decide) (by rfl) ?_
  walk1
  refine LCt.CompSrcT.ledger rfl F2 N2 (.tail _ (.tail _ ha)) (by rw [List.size_toArray, hxl, sizeLine_eq]; omega) ?_
  intro g3
  refine rest_invT (fun i ys nw => nw = (d0, od) :: (L' + 1, o1) :: news ∧ StrsAre ys ((xs.take i).filter fun x => decide (x ∈ KN))) ?_ ?_ _ 0 [] _ (Nat.zero_add _) ⟨rfl, .nil⟩
  · rintro i v ys nw I oI C oC D m₂ h tk E' hi hv ⟨rfl, hys⟩ hC hx F N off n1 n2 n3
    obtain ⟨x, t, rfl, hxi⟩ := hax.item i v (by simpa using hv)
    k_steps
    refine unhalt ?_
    refine in_list_strs (N.isList (.tail _ (.tail _ (.tail _ (.tail _ (.tail _ hk0)))))) hkk ?_
    rw [any_mem]
    have hf : (xs.take (i + 1)).filter (fun x => decide (x ∈ KN)) = (xs.take i).filter (fun x => decide (x ∈ KN)) ++ (if x ∈ KN then [x] else []) := by
      rw [List.take_add_one, hxi, Option.toList_some, List.filter_append]
      congr 1
      by_cases hm : x ∈ KN <;> simp [hm]
    by_cases hm : x ∈ KN
    · rw [decide_eq_true hm]
      rw [if_pos hm] at hf
      k_steps
      refine LCg.CompEnd.intro F N _ (fun _ h => h) off (.inr ⟨_, .tail _ (.tail _ ha), rfl, _, rfl⟩) ⟨rfl, ?_⟩
      rw [hf]; exact StrsAre.append' hys (.cons _ _ .nil)
    · rw [decide_eq_false hm]
      rw [if_neg hm, List.append_nil] at hf
      k_steps
      refine LCg.CompEnd.intro F N _ (fun _ h => h) off (.inr ⟨_, .tail _ (.tail _ ha), rfl, _, rfl⟩) ⟨rfl, ?_⟩
      rw [hf]; exact hys
  · rintro ys nw ⟨rfl, hys⟩
    rw [List.size_toArray, hxl, List.take_length] at hys
    unfold LCg.FinE
    intro D h tk F3 N3 o3
    k_steps
    refine unhalt ?_
    (rename Fr _ _ _ _ => F4); (rename News _ _ _ _ => N4)
    have hoD := off1_all o3
    refine while_J (fun k m nx => ∃ d wl o kvs wvs ws nn, m "found" = some (.ref d) ∧ m "waiting" = some (.ref wl) ∧ m "texts" = some (.ref td) ∧ nx = (wl, listOf wvs.toArray nn) :: (d, o) :: (L' + 1, o1) :: news ∧ (∀ p ∈ news, p.1 < d) ∧ L' + 1 < d ∧ d ≠ wl ∧ L' + 1 ≠ wl ∧ (∀ p ∈ news, p.1 ≠ wl) ∧ (d == sysModules) = false ∧ o.IsDictOf (PySem.strKind PG w) kvs ∧ StrsAre wvs ws ∧ RInv xs (kvs.map (·.1)) ws k)
      F4 (news₀ := (D, listOf ys.toArray _) :: (d0, od) :: (L' + 1, o1) :: news) (fun p hp => N4 p (.tail _ hp)) ⟨d0, D, od, [], ys, _, _, if_pos rfl, (if_neg (by decide)).trans (if_pos rfl), (if_neg (by decide)).trans ((if_neg (by decide)).trans hmt), rfl, allLt_all l2.2, hcd, hoD _ (.head _), hoD _ (.tail _ (.head _)), fun p hp => hoD p (.tail _ (.tail _ hp)), lo0, hs0, hys, RInv.start (by omega)⟩ ?_
    rintro k m₁ nx h tk ⟨d, wl, o, kvs, wvs, ws, nn, hmf, hmw, hmt₁, rfl, hd0, hcd1, hdw, hcw, hnw, lo, hdict, hws, I⟩ F₁ N₁
    clear F4 N4
    k_steps
    refine unhalt ?_
    (rename Fr _ _ _ _ => F5); (rename News _ _ _ _ => N5)
    refine ne_strs (ms := []) (N5.isList (.tail _ (.head _))) (N5.isList (.head _)) hws .nil (fun x hx => kn_strOk x (I.inW x hx).known) (fun _ h => nomatch h) (by show un + 3 + 64 < cLine; omega) ?_
    replace N5 : News g L' _ ((wl, listOf wvs.toArray nn) :: (d, o) :: (L' + 1, o1) :: news) := fun p hp => N5 p (.tail _ hp)
    (try clear F₁ N₁)
    rcases List.eq_nil_or_concat ws with rfl | ⟨ws', x, rfl⟩
    · rw [decide_eq_true rfl, Bool.not_true]
      k_steps
      (rename Fr _ _ _ _ => F9); (rename News _ _ _ _ => N9)
      exact hret _ _ _ _ F9 (fun p hp => N9 p (by
        rcases List.mem_cons.mp hp with rfl | hp
        · exact .tail _ (.head _)
        · exact .tail _ (.tail _ (.tail _ hp)))) ⟨d, o, kvs, rfl, rfl, hd0, lo, hdict, fun k => I.done k⟩
    · rw [List.concat_eq_append] at hws I ⊢
      rw [decide_eq_false (by simp), Bool.not_false]
      obtain ⟨us, tx, rfl, hus⟩ := strs_snoc hws
      have hul : us.length ≤ 2000 := by
        have a := I.meas; have b := I.bound
        rw [List.length_append, List.length_singleton] at a
        rw [hus.length]; omega
      have hxt : Told1 xs x := I.inW x (List.mem_append_right _ (List.mem_singleton.mpr rfl))
      k_steps
      refine unhalt ?_
      (rename Fr _ _ _ _ => F5); (rename News _ _ _ _ => N5)
      refine pop_last F5 N5 (fun p hp => ?_) (by omega) fun h6 F6 N6 => ?_
      · rcases List.mem_cons.mp hp with rfl | hp
        · exact hdw
        · rcases List.mem_cons.mp hp with rfl | hp
          · exact hcw
          · exact hnw p hp
      (try clear F5 N5)
      k_steps
      refine unhalt ?_
      (rename Fr _ _ _ _ => F7); (rename News _ _ _ _ => N7)
      refine kdg_notin N7 (.tail _ (.head _)) hdict lo (strKind_is _ _ _ _) _ (valueAt_mem kvs x) ?_
      by_cases hin : x ∈ kvs.map (·.1)
      · rw [decide_eq_true hin, Bool.not_true]
        k_steps
        (rename Fr _ _ _ _ => F8); (rename News _ _ _ _ => N8)
        obtain ⟨I1, hlt⟩ := I.known hin
        exact WEnd.go F8 N8 hlt ⟨d, wl, o, kvs, us, ws', nn + 1, (if_neg (by decide)).trans hmf, (if_neg (by decide)).trans hmw, (if_neg (by decide)).trans hmt₁, rfl, hd0, hcd1, hdw, hcw, hnw, lo, hdict, hus, I1⟩
      · rw [decide_eq_false hin, Bool.not_false]
        k_steps
        refine unhalt ?_
        (rename Fr _ _ _ _ => F8); (rename News _ _ _ _ => N8)
        have hkt : x ∈ tkv.map (·.1) := by rw [htv.keys]; exact told_key hxt
        refine kdg_notin N8 (.tail _ (.tail _ (.tail _ htd))) htdd lod (strKind_is _ _ _ _) _ (valueAt_mem tkv x) ?_
        rw [decide_eq_true hkt, Bool.not_true]
        k_steps
        refine unhalt ?_
        (rename Fr _ _ _ _ => F9); (rename News _ _ _ _ => N9)
        have hkl : kvs.length ≤ 23 := by have := I.few; rwa [List.length_map] at this
        refine kda_set F9 N9 (.tail hdw.symm (.head fun p hp => ?_)) hdict (strKind_is _ _ _ _) (by rw [sizeLine_eq]; omega) ?_
        · rcases List.mem_cons.mp hp with rfl | hp
          · exact Nat.ne_of_lt hcd1
          · exact Nat.ne_of_lt (hd0 p hp)
        intro h10 o10 F10 N10 hd10
        rw [stored_new _ hin] at hd10
        k_steps
        refine unhalt ?_
        obtain ⟨y, u, hva, hxy⟩ := htv.valueAt x (by rw [← htv.keys]; exact hkt)
        obtain ⟨_, ok⟩ := told_ok hxy
        refine LCt.ListComp_T F10 (cl := [("known", L' + 1)]) (by with_unfolding_all rfl) (by decide) (by rfl) (by decide) (by rfl) ?_
        k_steps
        refine unhalt ?_
        (rename Fr _ _ _ _ => F11); (rename News _ _ _ _ => N11)
        refine kda_item N11 (.tail _ (.tail _ (.tail _ htd))) htdd (strKind_is _ _ _ _) hva ?_
        k_steps
        refine unhalt ?_
        (rename Fr _ _ _ _ => F12); (rename News _ _ _ _ => N12)
        refine law_words_c w y u _ ok.ascii (Nat.le_trans ok.short (by decide)) p loose mean mg mb (dp + 1) (un + 3) gd _ _ _ _ _ _ _ _ _ _ _ _ _ _ B' F12 X' N12 T' rfl (by omega) (by omega) ?_
        rintro r nw h13 tk13 F13 N13 ⟨wo, wvs2, nn2, rfl, rfl, hw2, hwo⟩
        have hwl2 : wvs2.length ≤ 5001 := by
          have h2 : y.cps.size ≤ 4000 := ok.short
          have h1 := words_len y
          rw [hw2.length]; omega
        refine LCt.CompSrcT.ledger rfl F13 N13 (.head _) (by rw [List.size_toArray, sizeLine_eq]; omega) ?_
        intro g14
        refine rest_invT (fun i ys nw => nw = (wo, listOf wvs2.toArray nn2) :: (wl, listOf us.toArray (nn + 1)) :: (d, o10) :: (L' + 1, o1) :: news ∧ StrsAre ys (((wordsS y).take i).filter fun x => decide (x ∈ KN))) ?_ ?_ _ 0 [] _ (Nat.zero_add _) ⟨rfl, .nil⟩
        · rintro i v ys nw I oI C oC D m₂ h tk E' hi hv ⟨rfl, hys⟩ hC hx F N off n1 n2 n3
          obtain ⟨z, t, rfl, hzi⟩ := hw2.item i v (by simpa using hv)
          k_steps
          refine unhalt ?_
          refine in_list_strs (N.isList (.tail _ (.tail _ (.tail _ (.tail _ (.tail _ (.tail _ (.tail _ hk0)))))))) hkk ?_
          rw [any_mem]
          have hf : ((wordsS y).take (i + 1)).filter (fun x => decide (x ∈ KN)) = ((wordsS y).take i).filter (fun x => decide (x ∈ KN)) ++ (if z ∈ KN then [z] else []) := by
            rw [List.take_add_one, hzi, Option.toList_some, List.filter_append]
            congr 1
            by_cases hm : z ∈ KN <;> simp [hm]
          by_cases hm : z ∈ KN
          · rw [decide_eq_true hm]
            rw [if_pos hm] at hf
            k_steps
            refine LCg.CompEnd.intro F N _ (fun _ h => h) off (.inr ⟨_, .head _, rfl, _, rfl⟩) ⟨rfl, ?_⟩
            rw [hf]; exact StrsAre.append' hys (.cons _ _ .nil)
          · rw [decide_eq_false hm]
            rw [if_neg hm, List.append_nil] at hf
            k_steps
            refine LCg.CompEnd.intro F N _ (fun _ h => h) off (.inr ⟨_, .head _, rfl, _, rfl⟩) ⟨rfl, ?_⟩
            rw [hf]; exact hys
        · rintro ys nw ⟨rfl, hys⟩
          rw [List.size_toArray, hw2.length, List.take_length] at hys
          unfold LCg.FinE
          intro D h15 tk15 F15 N15 o15
          replace hys : StrsAre ys (KW y) := hys
          k_steps
          refine unhalt ?_
          have hoD := off1_all o15
          (rename Fr _ _ _ _ => F16); (rename News _ _ _ _ => N16)
          refine kmk_add_lit F16 N16 (N16.isList (.tail _ (.tail _ (.head _)))) (N16.isList (.head _)) rfl ?_ ?_
          · intro D17 h17 F17 N17 l17
            k_steps
            (rename Fr _ _ _ _ => F18); (rename News _ _ _ _ => N18)
            obtain ⟨I1, hlt⟩ := I.put hin hxy
            refine WEnd.go F18 (news' := (D17, listOf (us ++ ys).toArray 0) :: (d, o10) :: (L' + 1, o1) :: news) (fun p hp => N18 p (by
              rcases List.mem_cons.mp hp with rfl | hp
              · exact .head _
              · exact .tail _ (.tail _ (.tail _ (.tail _ hp))))) hlt ⟨d, D17, o10, kvs ++ [(x, _)], us ++ ys, ws' ++ KW y, 0, (if_neg (by decide)).trans ((if_neg (by decide)).trans hmf), if_pos rfl, (if_neg (by decide)).trans ((if_neg (by decide)).trans hmt₁), rfl, hd0, hcd1,
                Nat.ne_of_lt (l17 _ (.tail _ (.tail _ (.tail _ (.head _))))), Nat.ne_of_lt (l17 _ (.tail _ (.tail _ (.tail _ (.tail _ (.head _)))))), fun p hp => Nat.ne_of_lt (l17 p (.tail _ (.tail _ (.tail _ (.tail _ (.tail _ hp)))))), lo, hd10, StrsAre.append' hus hys, by rw [List.map_append]; exact I1⟩
          · have h1 := hus.length
            have h2 := hys.length
            have h3 := ok.few
            have a := I.meas; have b := I.bound
            rw [List.length_append, List.length_singleton] at a
            simp only [List.length_cons, List.length_nil]
            rw [sizeLine_eq]; omega
end Mine
end

section
open PySem PySem.W PyProof.Rows PyProof.Rows.LCg
namespace Mine
local macro_rules | `(tactic| ktr_unf) => `(tactic| (refine' code_defC ?k1 ?k2 ?k3 ?k4 ?k5 ?kA ?kF ?kK ?k6 ?k7 ?k8 ?k9 ?kB ?kD ?_ ?c2 ?c3 ?c4; (case kA => exact rfl); (case kF => exact rfl); (case kK => assumption); (case k1 => k_asm); (case k2 => k_asm); (case k3 => k_asm); (case k4 => k_asm); (case k5 => k_asm); (case k6 => k_is); (case k7 => k_is); (case k8 => ktr_room); (case k9 => exact BindsTo.of_eq rfl); (case kB => exact rfl); (case kD => decide +kernel); (case c2 => exact rfl); (case c3 => exact rfl); (case c4 => exact rfl); k_whole; intro g' L' h' tk' cells' FG' F' N' Y' B' X' T' l1; k_cells Y'; (try simp only [List.cons_append, List.nil_append] at N'); (try dsimp only); (try k_fold)))
local macro_rules | `(tactic| walk_at "eval Name") => `(tactic| (k_here; k_dflt (refine' nameX_L ?k1 ?k2 ?_; (case k1 => k_asm); (case k2 => ((try dsimp only); (repeat (refine (if_neg (by decide)).trans ?_)); first | exact if_pos rfl | assumption)); k_whole)))
local macro_rules | `(tactic| k_all) => `(tactic| assumption)
local macro_rules | `(tactic| walk_at "eval ListComp") => `(tactic| refine halt ?_)
local macro_rules | `(tactic| walk_at "exec Assign cons ListComp") => `(tactic| refine halt ?_)
local macro_rules | `(tactic| walk_at "exec While Compare cons nil") => `(tactic| refine halt ?_)
local macro_rules | `(tactic| walk_at "compareOp NotEq ref ref") => `(tactic| refine halt ?_)
local macro_rules | `(tactic| walk_at "compareOp NotIn str ref") => `(tactic| refine halt ?_)
local macro_rules | `(tactic| walk_at "compareOp In str ref") => `(tactic| refine halt ?_)
local macro_rules | `(tactic| walk_at "setItem ref str") => `(tactic| refine halt ?_)
local macro_rules | `(tactic| walk_at "subscriptTail Name Name ref str") => `(tactic| refine halt ?_)
local macro_rules | `(tactic| walk_at "call ref") => `(tactic| refine halt ?_)
local macro_rules | `(tactic| walk_at "call builtin:list.pop") => `(tactic| refine halt ?_)
local macro_rules | `(tactic| walk_at "binaryOp Add ref ref") => `(tactic| refine halt ?_)
local macro_rules | `(tactic| walk_at "call type:dict") => `(tactic| refine halt ?_)
local macro_rules | `(tactic| walk_at "call builtin:sorted") => `(tactic| refine halt ?_)
local macro_rules | `(tactic| walk_at "subscriptTail") => `(tactic| refine halt ?_)
local macro_rules | `(tactic| walk_at "exec For Tuple Name cons nil") => `(tactic| refine halt ?_)
local macro_rules | `(tactic| walk_at "compareOp Eq ref ref") => `(tactic| refine halt ?_)
local macro_rules | `(tactic| walk_at "exec If Compare cons nil") => `(tactic| refine halt ?_)
local macro_rules | `(tactic| walk_at "compareOp NotEq bool bool") => `(tactic| refine halt ?_)
example : Here PySem.Challenge.rw_nt0256_01 hd.heap_39 True := by
  k_fill
  exact here_of trivial
set_option maxRecDepth 100000
set_option maxHeartbeats 4000000
theorem pick2 {vs : List Value} {ss : List Str} (h : StrsAre vs ss) : StrsAre (kms_pick vs none (some 2)) (ss.take 2) := by
  have e : kms_pick vs none (some 2) = vs.take (min 2 vs.length) := by
    unfold kms_pick
    show (vs.drop 0).take (min 2 vs.length - 0) = _
    rw [List.drop_zero, Nat.sub_zero]
  rw [e, kmk_take_min]
  exact h.take' 2
theorem define_ok : PyData.strOk (Str.ofString "define") = true := by decide +kernel
theorem law_is_right_c (w : World) (al kl : Addr) (avs kvs0 : List Value) (n1 n2 : Nat) (xs : List Str) (news : List (Addr × Obj))
    (ha : (al, listOf avs.toArray n1) ∈ news) (hax : StrsAre avs xs) (hlen : xs.length ≤ 500) (hk0 : (kl, listOf kvs0.toArray n2) ∈ news) (hkk : StrsAre kvs0 KN) :
    Ctr w 128 [.ref al, .ref kl] news 40 300 (fun r nw => nw = news ∧ r = .bool true) := by
  unfold Ctr
  intro p loose mean mg mb dp un gd cn cs a ccd cl outer A₀ base h₀ L m s Q E B F X N T hk hd hu hret
  refine wpAny_call ?_
  k_dflt ktr_unf
  rename_i g L' h₁ tk1 FG F' B' X' T' l1 o2 o1 d2 d1 N'
  have hc1 : o1.data = Data.cell none := d1
  have hc2 : o2.data = Data.cell none := d2
  clear d1 d2
  obtain ⟨mF, hma, hmk, F1⟩ : ∃ mF : Str → Option Value, mF "asked" = some (.ref al) ∧ mF "known" = some (.ref kl) ∧ Fr g L' h₁ mF := ⟨_, rfl, rfl, F'⟩
  clear F'
  k_steps
  refine unhalt ?_
  refine prelude_for_c w al avs xs n1 _ (.tail _ (.tail _ ha)) hax hlen p loose mean mg mb (dp + 1) (un + 3) gd _ _ _ _ _ _ _ _ _ _ _ _ _ _ B' F1 X' N' T' rfl (by omega) (by omega) ?_
  rintro r nw h2 tk2 F2 N2 ⟨pl, rs, npl, tl, rfl, rfl, hprs, hpl, htl⟩
  have hpl1 : L' + 1 < pl := hpl _ (.tail _ (.head _))
  have hpl2 : L' + 1 + 1 < pl := hpl _ (.head _)
  have hpln : ∀ q ∈ news, q.1 < pl := fun q hq => hpl q (.tail _ (.tail _ hq))
  clear hpl
  replace N2 : News g L' h2 ((L' + 1 + 1, o2) :: (L' + 1, o1) :: (pl, listOf rs.toArray npl) :: (tl ++ news)) := fun p hp => N2 p (by
    rcases List.mem_cons.mp hp with rfl | hp
    · exact .tail _ (List.mem_append_right _ (.head _))
    · rcases List.mem_cons.mp hp with rfl | hp
      · exact .tail _ (List.mem_append_right _ (.tail _ (.head _)))
      · rcases List.mem_cons.mp hp with rfl | hp
        · exact .head _
        · rcases List.mem_append.mp hp with hp | hp
          · exact .tail _ (List.mem_append_left _ hp)
          · exact .tail _ (List.mem_append_right _ (.tail _ (.tail _ hp))))
  have hpT : PairsIn (tl ++ news) rs (toldL xs) := hprs.mono fun p hp => List.mem_append_left _ hp
  generalize hR : tl ++ news = R at N2 hpT
  have hnR : ∀ p ∈ news, p ∈ R := fun p hp => hR ▸ List.mem_append_right _ hp
  have hRl : ∀ p ∈ R, p.1 ≠ pl ∧ p.1 ≠ L' + 1 ∧ p.1 ≠ L' + 1 + 1 := fun p hp => by
    rw [← hR] at hp
    rcases List.mem_append.mp hp with hp | hp
    · have := htl p hp
      exact ⟨Nat.ne_of_gt this, Nat.ne_of_gt (Nat.lt_trans hpl1 this), Nat.ne_of_gt (Nat.lt_trans hpl2 this)⟩
    · have h1 := hpln p hp
      have h2 := l1 p hp
      exact ⟨Nat.ne_of_lt h1, Nat.ne_of_lt (Nat.lt_succ_of_lt h2), Nat.ne_of_lt (Nat.lt_succ_of_lt (Nat.lt_succ_of_lt h2))⟩
  obtain ⟨tkv, hpL, htv⟩ := hpT.toL
  have hpl0 := hpT.length
  k_steps
  refine unhalt ?_
  (rename Fr _ _ _ _ => F3); (rename News _ _ _ _ => N3)
  have hkvl : tkv.length ≤ 23 := by
    rw [htv.length]; exact toldN_len xs 23
  refine dict_pairs rfl F3 N3 T'.nolimit (.tail _ (.tail _ (.head _))) ((hpL.mono fun p hp => .tail _ (.tail _ (.tail _ hp))).toH N3) (by omega) ?_
  intro td tdo h4 tk4 F4 N4 htd lod htdd
  rw [storedAll_nodup tkv [] (by rw [List.nil_append, htv.keys]; exact toldL_nodup xs), List.nil_append] at htdd
  have ht1 : L' + 1 < td := htd _ (.tail _ (.head _))
  have ht2 : L' + 1 + 1 < td := htd _ (.head _)
  have htp : pl < td := htd _ (.tail _ (.tail _ (.head _)))
  have htR : ∀ p ∈ R, p.1 < td := fun p hp => htd p (.tail _ (.tail _ (.tail _ hp)))
  k_steps
  have h12 : L' + 1 ≠ L' + 1 + 1 := Nat.ne_of_lt (Nat.lt_succ_self _)
  refine storeX_C F4 N4 (c := L' + 1) (o := o1) rfl (.tail (Nat.ne_of_gt ht1) (.tail (Ne.symm h12) (.head fun p hp => ?_))) hc1 ?_ rfl rfl
  · rcases List.mem_cons.mp hp with rfl | hp
    · exact Nat.ne_of_gt hpl1
    · exact (hRl p hp).2.1
  intro h5 o5 F5 N5 hc5
  replace N5 : News g L' h5 ((td, tdo) :: (L' + 1 + 1, o2) :: (L' + 1, o5) :: (pl, listOf rs.toArray npl) :: R) := N5
  k_steps
  refine unhalt (wpAny_If ?_)
  k_steps
  refine unhalt ?_
  have hpLR : ∀ nw : List (Addr × Obj), (∀ p ∈ R, p ∈ nw) → PairsL nw rs tkv := fun nw h => hpL.mono h
  refine LCp.ListComp_P F5 (cl := []) (by with_unfolding_all rfl) (by decide) (by rfl) (by decide) (by rfl) (by rfl) (by decide) ?_
  k_steps
  have hrl : rs.toArray.size = tkv.length := by rw [List.size_toArray, hpL.length]
  refine LCp.SrcLP.ledger rfl F5 N5 (ax := pl) (its := rs.toArray) (k := npl) (.tail _ (.tail _ (.tail _ (.head _)))) (by rw [hrl, sizeLine_eq]; omega) fun g6 => ?_
  refine pairs_inv (vs := rs) (ps := tkv) (fun i ys nw => nw = (td, tdo) :: (L' + 1 + 1, o2) :: (L' + 1, o5) :: (pl, listOf rs.toArray npl) :: R ∧ StrsAre ys ((tkv.map (·.1)).take i)) ?_ ?_ ?_ rs.toArray.size 0 [] _ (by simp) ⟨rfl, .nil⟩
  · rintro i ys nw ⟨rfl, _⟩
    exact hpLR _ fun p hp => .tail _ (.tail _ (.tail _ (.tail _ hp)))
  · rintro i kk v ys nw t I oI C oC D m₂ h tk E' hi ⟨rfl, hys⟩ hC hx1 hx2 F N off n1 n2 n3
    k_steps
    refine LCg.CompEnd.intro F N _ (fun _ h => h) off (.inr ⟨_, .tail _ (.tail _ (.tail _ (.head _))), rfl, _, rfl⟩) ⟨rfl, ?_⟩
    rw [List.take_add_one, List.getElem?_map, hi]
    exact StrsAre.append' hys (.cons _ _ .nil)
  · rintro ys nw ⟨rfl, hys⟩
    rw [List.take_of_length_le (by rw [List.length_map, hpL.length]; exact Nat.le_refl _), htv.keys] at hys
    unfold LCg.FinE
    intro D7 h7 tk7 F7 N7 o7
    k_steps
    refine unhalt ?_
    have hkR : (kl, listOf kvs0.toArray n2) ∈ R := hnR _ hk0
    have haR : (al, listOf avs.toArray n1) ∈ R := hnR _ ha
    have hkl0 : kvs0.length = KN.length := hkk.length
    refine LCt.ListComp_T F7 (cl := [("texts", L' + 1)]) (by with_unfolding_all rfl) (by decide) (by rfl) (by decide) (by rfl) ?_
    k_steps
    refine LCt.CompSrcT.ledger rfl F7 N7 (.tail _ (.tail _ (.tail _ (.tail _ (.tail _ hkR))))) (by rw [List.size_toArray, hkl0, kn_len, sizeLine_eq]; decide) ?_
    intro g8
    refine rest_invT (fun i zs nw => nw = (D7, LCg.lst ys) :: (td, tdo) :: (L' + 1 + 1, o2) :: (L' + 1, o5) :: (pl, listOf rs.toArray npl) :: R ∧ StrsAre zs ((KN.take i).filter fun x => decide (x ∈ (toldL xs).map (·.1)))) ?_ ?_ _ 0 [] _ (Nat.zero_add _) ⟨rfl, .nil⟩
    · rintro i v zs nw I oI C oC D m₂ h tk E' hi hv ⟨rfl, hzs⟩ hC hx F N off q1 q2 q3
      obtain ⟨x, t, rfl, hxi⟩ := hkk.item i v (by simpa using hv)
      k_steps
      refine unhalt ?_
      refine kda_in N (.tail _ (.tail _ (.tail _ (.tail _ (.head _))))) htdd lod (strKind_is _ _ _ _) _ (valueAt_mem tkv x) ?_
      rw [htv.keys]
      have hf : (KN.take (i + 1)).filter (fun x => decide (x ∈ (toldL xs).map (·.1))) = (KN.take i).filter (fun x => decide (x ∈ (toldL xs).map (·.1))) ++ (if x ∈ (toldL xs).map (·.1) then [x] else []) := by
        rw [List.take_add_one, hxi, Option.toList_some, List.filter_append]
        congr 1
        by_cases hm : x ∈ (toldL xs).map (·.1)
        · rw [if_pos hm]; exact List.filter_cons_of_pos (decide_eq_true hm)
        · rw [if_neg hm]; exact List.filter_cons_of_neg (by rw [decide_eq_false hm]; exact Bool.false_ne_true)
      have hmem : (kl, listOf kvs0.toArray n2) ∈ (D7, LCg.lst ys) :: (td, tdo) :: (L' + 1 + 1, o2) :: (L' + 1, o5) :: (pl, listOf rs.toArray npl) :: R := .tail _ (.tail _ (.tail _ (.tail _ (.tail _ hkR))))
      by_cases hm : x ∈ (toldL xs).map (·.1)
      · rw [decide_eq_true hm]
        rw [if_pos hm] at hf
        k_steps
        refine LCg.CompEnd.intro F N _ (fun _ h => h) off (.inr ⟨_, hmem, rfl, _, rfl⟩) ⟨rfl, ?_⟩
        rw [hf]; exact StrsAre.append' hzs (.cons _ _ .nil)
      · rw [decide_eq_false hm]
        rw [if_neg hm, List.append_nil] at hf
        k_steps
        refine LCg.CompEnd.intro F N _ (fun _ h => h) off (.inr ⟨_, hmem, rfl, _, rfl⟩) ⟨rfl, ?_⟩
        rw [hf]; exact hzs
    · rintro zs nw ⟨rfl, hzs⟩
      rw [List.size_toArray, hkl0, List.take_length, keys_filter] at hzs
      unfold LCg.FinE
      intro D9 h9 tk9 F9 N9 o9
      k_steps
      refine unhalt ?_
      have htok : ∀ x ∈ (toldL xs).map (·.1), PyData.strOk x = true := fun x hx => kn_strOk x (toldL_known xs x hx).1
      (rename Fr _ _ _ _ => F10); (rename News _ _ _ _ => N10)
      refine ne_strs (N10.isList (.tail _ (.head _))) (N10.isList (.head _)) hys hzs htok htok (by show un + 3 + 64 < cLine; omega) ?_
      rw [decide_eq_true rfl, Bool.not_true]
      replace N10 : News g L' _ ((td, tdo) :: (L' + 1 + 1, o2) :: (L' + 1, o5) :: (pl, listOf rs.toArray npl) :: R) := fun p hp => N10 p (.tail _ (.tail _ hp))
      (try clear F9 N9 F7 N7)
      k_steps
      refine unhalt ?_
      (rename Fr _ _ _ _ => F11); (rename News _ _ _ _ => N11)
      refine law_reached_c w al kl td avs kvs0 n1 n2 xs tdo tkv _ (.tail _ (.tail _ (.tail _ (.tail _ haR)))) hax hlen (.tail _ (.tail _ (.tail _ (.tail _ hkR)))) hkk (.head _) lod htdd htv p loose mean mg mb (dp + 1) (un + 3) gd _ _ _ _ _ _ _ _ _ _ _ _ _ _ B' F11 X' N11 T' rfl (by omega) (by omega) ?_
      rintro r nw hh12 tk12 F12 N12 ⟨rd, ro, rkv, rfl, rfl, hrd, lor, hrdict, hrk⟩
      have hr1 : L' + 1 < rd := hrd _ (.tail _ (.tail _ (.head _)))
      have hr2 : L' + 1 + 1 < rd := hrd _ (.tail _ (.head _))
      have hrt : td < rd := hrd _ (.head _)
      have hrR : ∀ p ∈ R, p.1 < rd := fun p hp => hrd p (.tail _ (.tail _ (.tail _ (.tail _ hp))))
      (try clear F11 N11 F10 N10)
      k_steps
      refine storeX_C F12 N12 (c := L' + 1 + 1) (o := o2) rfl (.tail (Nat.ne_of_gt hr2) (.tail (Nat.ne_of_gt ht2) (.head fun p hp => ?_))) hc2 ?_ rfl rfl
      · rcases List.mem_cons.mp hp with rfl | hp
        · exact h12
        · rcases List.mem_cons.mp hp with rfl | hp
          · exact Nat.ne_of_gt hpl2
          · exact (hRl p hp).2.2
      intro h13 o13 F13 N13 hc13
      replace N13 : News g L' h13 ((rd, ro) :: (td, tdo) :: (L' + 1 + 1, o13) :: (L' + 1, o5) :: (pl, listOf rs.toArray npl) :: R) := N13
      (try clear F12 N12)
      k_steps
      refine unhalt ?_
      have hrnd : (rkv.map (·.1)).Nodup := by obtain ⟨_, _, _, _, _, _, hnd⟩ := hrdict; exact hnd
      have hrfew : rkv.length ≤ 23 := by
        have := nodup_few hrnd fun k hk => ((hrk k).mp hk).known
        rwa [List.length_map] at this
      refine sorted_dictS rfl F13 N13 (.head _) hrdict lor (by omega) ?_
      intro B14 h14 tk14 vs14 ss14 c14 F14 N14 l14 hv14 hp14 hs14
      (try clear F13 N13)
      k_steps
      refine unhalt ?_
      refine sorted_dictS rfl F14 N14 (.tail _ (.tail _ (.head _))) htdd lod (by omega) ?_
      intro B15 h15 tk15 vs15 ss15 c15 F15 N15 l15 hv15 hp15 hs15
      (try clear F14 N14)
      k_steps
      refine unhalt ?_
      have hsame : ss14 = ss15 := sorted_same hp14 hp15 hs14 hs15 hrnd (by rw [htv.keys]; exact toldL_nodup xs) fun k => by
        rw [hrk, htv.keys]
        exact ⟨told_key, fun h => (toldL_known xs k h).2⟩
      refine ne_strs (N15.isList (.tail _ (.head _))) (N15.isList (.head _)) hv14 hv15 (fun x hx => kn_strOk x ((hrk x).mp (hp14.mem_iff.mp hx)).known) (fun x hx => htok x (by rw [← htv.keys]; exact hp15.mem_iff.mp hx)) (by show un + 3 + 64 < cLine; omega) ?_
      rw [decide_eq_true hsame, Bool.not_true]
      replace N15 : News g L' _ ((rd, ro) :: (td, tdo) :: (L' + 1 + 1, o13) :: (L' + 1, o5) :: (pl, listOf rs.toArray npl) :: R) := fun p hp => N15 p (.tail _ (.tail _ hp))
      k_steps
      refine unhalt ?_
      (rename Fr _ _ _ _ => F16); (rename News _ _ _ _ => N16)
      obtain ⟨mG, hga, hgt, F17⟩ : ∃ mG : Str → Option Value, mG "asked" = some (.ref al) ∧ mG "told" = some (.ref pl) ∧ Fr g L' _ mG := ⟨_, (if_neg (by decide)).trans hma, if_pos rfl, F16⟩
      (try clear F16)
      refine For_turns F17 ?_
      walk1
      have hplm : (pl, listOf rs.toArray npl) ∈ (rd, ro) :: (td, tdo) :: (L' + 1 + 1, o13) :: (L' + 1, o5) :: (pl, listOf rs.toArray npl) :: R := .tail _ (.tail _ (.tail _ (.tail _ (.head _))))
      refine iter_lst (fun i m nx => m "asked" = some (.ref al) ∧ m "told" = some (.ref pl) ∧ nx = (rd, ro) :: (td, tdo) :: (L' + 1 + 1, o13) :: (L' + 1, o5) :: (pl, listOf rs.toArray npl) :: R) rfl hplm rfl rfl F17 N16 ⟨hga, hgt, rfl⟩ ?_ ?_
      · rintro i v m₁ news₁ I oI h tk hv ⟨hma₁, hmt₁, rfl⟩ hl₁ ho F₁ N₁
        replace F₁ : Fr g L' h m₁ := F₁
        replace N₁ : News g L' h ((I, oI) :: (rd, ro) :: (td, tdo) :: (L' + 1 + 1, o13) :: (L' + 1, o5) :: (pl, listOf rs.toArray npl) :: R) := N₁
        obtain ⟨T, t, nT, key, xv, rfl, hpi, hT⟩ := (hpLR R fun _ h => h).at i v hv
        obtain ⟨x, u, rfl, hxi⟩ := htv.at i key xv hpi
        obtain ⟨needs, ok⟩ := told_ok (List.mem_of_getElem? hxi)
        refine unpackN_ F₁ N₁ (items := [Value.str key t, Value.str x u].toArray) ⟨_, (N₁ _ (.tail _ (.tail _ (.tail _ (.tail _ (.tail _ (.tail _ hT))))))).1, rfl, nT, rfl⟩ rfl (by rfl) (by rfl) ?_
        intro h18 F18 N18
        (try clear F₁ N₁)
        k_steps
        refine unhalt (wpAny_If ?_)
        k_steps
        refine unhalt ?_
        (rename Fr _ _ _ _ => F20); (rename News _ _ _ _ => N20)
        refine law_words_c w x u _ ok.ascii (Nat.le_trans ok.short (by decide)) p loose mean mg mb (dp + 1) (un + 3) gd _ _ _ _ _ _ _ _ _ _ _ _ _ _ B' F20 X' N20 T' rfl (by omega) (by omega) ?_
        rintro r nw h21 tk21 F21 N21 ⟨wo, wvs2, nn2, rfl, rfl, hw2, hwo⟩
        have hwl2 : wvs2.length ≤ 5001 := by
          have h2 : x.cps.size ≤ 4000 := ok.short
          have h1 := words_len x
          rw [hw2.length]; omega
        (try clear F20 N20)
        k_steps
        refine unhalt ?_
        (rename Fr _ _ _ _ => F22); (rename News _ _ _ _ => N22)
        refine kba_turn (value' := PySem.Expr.Name (PySem.Str.ofString "_") ⟨0, 0, 0, 0⟩) (fun _ => rfl) ?_
        refine kms_slice_lit (hi := some 2) (lo := none) F22 N22 (N22.isList (.head _)) IsPart.none (IsPart.int _ _) rfl ?_ (by with_unfolding_all rfl) (by intro _; with_unfolding_all rfl) (by rw [List.size_toArray, sizeLine_eq]; omega)
        intro D23 h23 F23 N23 l23
        (try clear F22 N22)
        k_steps
        refine unhalt ?_
        (rename Fr _ _ _ _ => F24); (rename News _ _ _ _ => N24)
        have hkk9 : key ∈ KN := (toldL_known xs key (List.mem_map.mpr ⟨_, List.mem_of_getElem? hxi, rfl⟩)).1
        have hh2 := pick2 hw2
        rw [ok.head] at hh2
        have hok2 : ∀ z ∈ [Str.ofString "define", key], PyData.strOk z = true := fun z hz => by
          rcases List.mem_cons.mp hz with rfl | hz
          · exact define_ok
          · rw [List.mem_singleton.mp hz]; exact kn_strOk key hkk9
        refine ne_strs (N24.isList (.tail _ (.head _))) (N24.isList (.head _)) hh2 (.cons _ _ (.cons _ _ .nil)) hok2 hok2 (by show un + 3 + 64 < cLine; omega) ?_
        rw [decide_eq_true rfl, Bool.not_true]
        k_steps
        (rename Fr _ _ _ _ => F25); (rename News _ _ _ _ => N25)
        exact TEnd.go F25 (fun p hp => N25 p (.tail _ (.tail _ (.tail _ hp)))) ho (fun p hp => by rw [List.mem_singleton.mp hp]; exact hplm) ⟨(if_neg (by decide)).trans ((if_neg (by decide)).trans hma₁), (if_neg (by decide)).trans ((if_neg (by decide)).trans hmt₁), rfl⟩
      · rintro m' news' h' tk F19 N19 hplm' ⟨hma₁, hmt₁, rfl⟩
        replace F19 : Fr g L' h' m' := F19
        replace N19 : News g L' h' ((rd, ro) :: (td, tdo) :: (L' + 1 + 1, o13) :: (L' + 1, o5) :: (pl, listOf rs.toArray npl) :: R) := N19
        k_steps
        refine unhalt ?_
        refine Assign_ListComp_tupT F19 (cl := [("reached", L' + 1 + 1)]) ⟨by with_unfolding_all rfl, by decide, by rfl, by decide, by rfl⟩ (by with_unfolding_all rfl) (by rfl) (by rfl) ?_
        k_steps
        (rename Fr _ _ _ _ => F20); (rename News _ _ _ _ => N20)
        rename_i wd _ lw20
        obtain ⟨wvs, two, hwm, hwS, N21⟩ : ∃ wvs two, two = (⟨.type "tuple", none, .seq (List.toArray wvs) 0, #[]⟩ : Obj) ∧ StrsAre wvs windL ∧ News g L' _ ((wd, two) :: (rd, ro) :: (td, tdo) :: (L' + 1 + 1, o13) :: (L' + 1, o5) :: (pl, listOf rs.toArray npl) :: R) := ⟨_, _, rfl, by repeat' constructor, N20⟩
        have hwl3 : wvs.length = 3 := by rw [hwS.length]; rfl
        refine ⟨wd, List.toArray wvs, _, rfl, rfl, F20, N21, .inr ⟨two, .head _, by rw [hwm], 0, by rw [hwm]⟩, by rw [List.size_toArray, hwl3, sizeLine_eq]; decide, ?_⟩
        rintro s₂ ⟨g21, rfl⟩
        have hSup : ∀ nw : List (Addr × Obj), (wd, two) ∈ nw → TupAt g wd (List.toArray wvs) nw := fun nw h => .inr ⟨two, h, by rw [hwm], 0, by rw [hwm]⟩
        refine rest_invT (fun i zs nw => nw = (wd, two) :: (rd, ro) :: (td, tdo) :: (L' + 1 + 1, o13) :: (L' + 1, o5) :: (pl, listOf rs.toArray npl) :: R ∧ StrsAre zs ((windL.take i).filter fun x => decide (x ∈ rkv.map (·.1)))) ?_ ?_ _ 0 [] _ (Nat.zero_add _) ⟨rfl, .nil⟩
        · rintro i v zs nw I oI C oC D m₂ h tk E' hi hv ⟨rfl, hzs⟩ hC hx F N off q1 q2 q3
          obtain ⟨x, t, rfl, hxi⟩ := hwS.item i v (by simpa using hv)
          k_steps
          refine unhalt ?_
          refine kda_in N (.tail _ (.tail _ (.tail _ (.tail _ (.head _))))) hrdict lor (strKind_is _ _ _ _) _ (valueAt_mem rkv x) ?_
          have hf : (windL.take (i + 1)).filter (fun x => decide (x ∈ rkv.map (·.1))) = (windL.take i).filter (fun x => decide (x ∈ rkv.map (·.1))) ++ (if x ∈ rkv.map (·.1) then [x] else []) := by
            rw [List.take_add_one, hxi, Option.toList_some, List.filter_append]
            congr 1
            by_cases hm : x ∈ rkv.map (·.1)
            · rw [if_pos hm]; exact List.filter_cons_of_pos (decide_eq_true hm)
            · rw [if_neg hm]; exact List.filter_cons_of_neg (by rw [decide_eq_false hm]; exact Bool.false_ne_true)
          by_cases hm : x ∈ rkv.map (·.1)
          · rw [decide_eq_true hm]
            rw [if_pos hm] at hf
            k_steps
            refine LCg.CompEnd.intro F N _ (fun _ h => h) off (hSup _ (.head _)) ⟨rfl, ?_⟩
            rw [hf]; exact StrsAre.append' hzs (.cons _ _ .nil)
          · rw [decide_eq_false hm]
            rw [if_neg hm, List.append_nil] at hf
            k_steps
            refine LCg.CompEnd.intro F N _ (fun _ h => h) off (hSup _ (.head _)) ⟨rfl, ?_⟩
            rw [hf]; exact hzs
        · rintro zs nw ⟨rfl, hzs⟩
          rw [List.size_toArray, hwl3, show windL.take 3 = windL from rfl] at hzs
          unfold LCg.FinA
          intro D22 h22 tk22 F22 N22 o22
          (try clear F20 N20 N21)
          replace N22 : News g L' h22 ((D22, LCg.lst zs) :: (rd, ro) :: (td, tdo) :: (L' + 1 + 1, o13) :: (L' + 1, o5) :: (pl, listOf rs.toArray npl) :: R) := fun p hp => N22 p (by
            rcases List.mem_cons.mp hp with rfl | hp
            · exact .head _
            · exact .tail _ (.tail _ hp))
          obtain ⟨mH, hhw, hha, hht, F23⟩ : ∃ mH : Str → Option Value, mH "winds" = some (.ref D22) ∧ mH "asked" = some (.ref al) ∧ mH "told" = some (.ref pl) ∧ Fr g L' h22 mH := ⟨_, if_pos rfl, (if_neg (by decide)).trans hma₁, (if_neg (by decide)).trans hmt₁, F22⟩
          clear F22
          k_steps
          refine unhalt ?_
          refine wpAny_mono (Q := AtEnd fun s' => ∃ h tk mE, s' = { s with heap := h, toks := tk } ∧ Fr g L' h mE ∧ mE "asked" = some (.ref al) ∧ mE "told" = some (.ref pl) ∧ News g L' h ((rd, ro) :: (td, tdo) :: (L' + 1 + 1, o13) :: (L' + 1, o5) :: (pl, listOf rs.toArray npl) :: R)) ?_ ?_ fun _ _ e => e
          · refine wpAny_If ?_
            k_steps
            refine unhalt ?_
            (rename Fr _ _ _ _ => F24); (rename News _ _ _ _ => N24)
            refine kda_in N24 (.tail _ (.head _)) hrdict lor (strKind_is _ _ _ _) _ (valueAt_mem rkv cwcc) ?_
            by_cases hc : cwcc ∈ rkv.map (·.1)
            · rw [decide_eq_true hc]
              have hct : Told1 xs cwcc := (hrk cwcc).mp hc
              obtain ⟨x, u, hva, hxy⟩ := htv.valueAt cwcc (told_key hct)
              obtain ⟨_, ok⟩ := told_ok hxy
              k_steps
              refine unhalt (wpAny_If ?_)
              k_steps
              refine unhalt ?_
              (rename Fr _ _ _ _ => F25); (rename News _ _ _ _ => N25)
              refine kda_item N25 (.tail _ (.tail _ (.head _))) htdd (strKind_is _ _ _ _) hva ?_
              k_steps
              refine unhalt ?_
              (rename Fr _ _ _ _ => F26); (rename News _ _ _ _ => N26)
              refine law_words_c w x u _ ok.ascii (Nat.le_trans ok.short (by decide)) p loose mean mg mb (dp + 1) (un + 3) gd _ _ _ _ _ _ _ _ _ _ _ _ _ _ B' F26 X' N26 T' rfl (by omega) (by omega) ?_
              rintro r nw h27 tk27 F27 N27 ⟨wo, wvs2, nn2, rfl, rfl, hw2, hwo⟩
              (try clear F26 N26)
              k_steps
              refine unhalt ?_
              (rename Fr _ _ _ _ => F28); (rename News _ _ _ _ => N28)
              refine in_list_strs (N28.isList (.head _)) hw2 ?_
              rw [any_mem]
              k_steps
              refine unhalt ?_
              (rename Fr _ _ _ _ => F29); (rename News _ _ _ _ => N29)
              have hLLs : ∀ q ∈ news, q ∈ (rd, ro) :: (td, tdo) :: (L' + 1 + 1, o13) :: (L' + 1, o5) :: (pl, listOf rs.toArray npl) :: R := fun q hq => .tail _ (.tail _ (.tail _ (.tail _ (.tail _ (hnR q hq)))))
              have hwin : ∀ k, k ∈ windL.filter (fun x => decide (x ∈ rkv.map (·.1))) ↔ k ∈ windL ∧ Told1 xs k := fun k => by
                rw [List.mem_filter]
                exact ⟨fun ⟨a, b⟩ => ⟨a, (hrk k).mp (of_decide_eq_true b)⟩, fun ⟨a, b⟩ => ⟨a, decide_eq_true ((hrk k).mpr b)⟩⟩
              refine ne_strs (ms := []) (N29.isList (.tail _ (.tail _ (.head _)))) (N29.isList (.head _)) hzs .nil (fun z hz => kn_strOk z ((hwin z).mp hz).2.known) (fun _ h => nomatch h) (by show un + 3 + 64 < cLine; omega) ?_
              have hwt := wound_text hxy
              have hwi := wound_iff hct
              have fin : ∀ b1 b2 : Bool, (b1 = true ↔ Told1 xs wcc) → (b2 = true ↔ Told1 xs wcc) → (b1 != b2) = false := fun b1 b2 h1 h2 => by
                have : b1 = b2 := Bool.eq_iff_iff.mpr (h1.trans h2.symm)
                rw [this]; simp
              have hb1 : decide (Str.ofString "%wound-call/cc" ∈ wordsS x) = true ↔ Told1 xs wcc := decide_eq_true_iff.trans hwt
              by_cases hwe : windL.filter (fun x => decide (x ∈ rkv.map (·.1))) = []
              · rw [decide_eq_true hwe, Bool.not_true]
                k_steps
                refine unhalt ?_
                (rename Fr _ _ _ _ => F40); (rename News _ _ _ _ => N40)
                refine in_list_strs (N40.isList (.tail _ (.tail _ (.tail _ (hLLs _ ha))))) hax ?_
                rw [any_mem]
                have hb2 : decide (Str.ofString "%wound-call/cc" ∈ xs) = true ↔ Told1 xs wcc := by
                  rw [decide_eq_true_iff, hwi]
                  refine ⟨.inr, fun h => h.resolve_left fun ⟨k, h1, h2⟩ => ?_⟩
                  have := (hwin k).mpr ⟨h1, h2⟩
                  rw [hwe] at this
                  exact absurd this (by simp)
                k_steps
                refine unhalt ?_
                refine ne_bool ?_
                rw [fin _ _ hb1 hb2]
                k_steps
                (rename Fr _ _ _ _ => F41); (rename News _ _ _ _ => N41)
                exact ⟨rfl, _, _, _, rfl, F41, (if_neg (by decide)).trans hha, (if_neg (by decide)).trans hht, fun p hp => N41 p (.tail _ (.tail _ (.tail _ hp)))⟩
              · rw [decide_eq_false hwe, Bool.not_false]
                k_steps
                refine unhalt ?_
                (rename Fr _ _ _ _ => F40); (rename News _ _ _ _ => N40)
                have hb2 : true = true ↔ Told1 xs wcc := by
                  rw [hwi]
                  refine ⟨fun _ => .inl ?_, fun _ => rfl⟩
                  obtain ⟨k, hk⟩ := List.exists_mem_of_ne_nil _ hwe
                  exact ⟨k, (hwin k).mp hk⟩
                refine ne_bool ?_
                rw [fin _ _ hb1 hb2]
                k_steps
                (rename Fr _ _ _ _ => F41); (rename News _ _ _ _ => N41)
                exact ⟨rfl, _, _, _, rfl, F41, (if_neg (by decide)).trans hha, (if_neg (by decide)).trans hht, fun p hp => N41 p (.tail _ (.tail _ (.tail _ hp)))⟩
            · rw [decide_eq_false hc]
              k_steps
              (rename Fr _ _ _ _ => F25); (rename News _ _ _ _ => N25)
              exact ⟨rfl, _, _, _, rfl, F25, (if_neg (by decide)).trans hha, (if_neg (by decide)).trans hht, fun p hp => N25 p (.tail _ hp)⟩
          · rintro f s' ⟨rfl, h30, tk30, mE, rfl, F30, hma3, hmt3, N30⟩
            k_steps
            refine unhalt ?_
            (rename Fr _ _ _ _ => F31); (rename News _ _ _ _ => N31)
            refine prelude_for_k w al avs xs n1 _ (.tail _ (.tail _ (.tail _ (.tail _ (.tail _ haR))))) hax hlen p loose mean mg mb (dp + 1) (un + 3) gd _ _ _ _ _ _ _ _ _ _ _ _ _ _ B' F31 X' N31 T' rfl (by omega) (by omega) ?_
            rintro r nw h32 tk32 F32 N32 ⟨pl2, rs2, npl2, tl2, rfl, rfl, hprs2, hpl2, htl2⟩
            (try clear F31 N31)
            k_steps
            refine unhalt ?_
            (rename Fr _ _ _ _ => F33); (rename News _ _ _ _ => N33)
            have hok : ∀ q ∈ toldL xs, PyData.strOk q.1 = true ∧ PyData.strOk q.2 = true := fun q hq => by
              obtain ⟨_, okq⟩ := told_ok (k := q.1) (x := q.2) hq
              exact ⟨htok q.1 (List.mem_map.mpr ⟨q, hq, rfl⟩), strOk_of_ascii okq.ascii⟩
            refine eq_told (ps := toldL xs) N33 (.head _) (.tail _ (List.mem_append_right _ (.tail _ (.tail _ (.tail _ (.tail _ (.head _))))))) (hprs2.mono fun q hq => .tail _ (List.mem_append_left _ hq)) (hpT.mono fun q hq => .tail _ (List.mem_append_right _ (.tail _ (.tail _ (.tail _ (.tail _ (.tail _ hq))))))) hok (by show un + 3 + 64 < cLine; omega) ?_
            k_steps
            (rename Fr _ _ _ _ => F34); (rename News _ _ _ _ => N34)
            exact hret _ _ _ _ F34 (fun q hq => N34 q (.tail _ (List.mem_append_right _ (.tail _ (.tail _ (.tail _ (.tail _ (.tail _ (hnR q hq))))))))) ⟨rfl, rfl⟩
end Mine
end

section
open PySem PySem.W PyProof.Rows PyProof.Rows.LCg
namespace Mine
local macro_rules | `(tactic| walk_at "eval Name") => `(tactic| (k_here; k_dflt (refine' nameX_L ?k1 ?k2 ?_; (case k1 => k_asm); (case k2 => ((try dsimp only); (repeat (refine (if_neg (by decide)).trans ?_)); first | exact if_pos rfl | assumption)); k_whole)))
local macro_rules | `(tactic| k_all) => `(tactic| assumption)
local macro_rules | `(tactic| walk_at "eval ListComp") => `(tactic| refine halt ?_)
local macro_rules | `(tactic| walk_at "exec Assign cons ListComp") => `(tactic| refine halt ?_)
local macro_rules | `(tactic| walk_at "call ref") => `(tactic| refine halt ?_)
local macro_rules | `(tactic| walk_at "call type:dict") => `(tactic| refine halt ?_)
local macro_rules | `(tactic| walk_at "call type:list") => `(tactic| refine halt ?_)
local macro_rules | `(tactic| walk_at "call builtin:sorted") => `(tactic| refine halt ?_)
local macro_rules | `(tactic| walk_at "compareOp NotEq ref ref") => `(tactic| refine halt ?_)
local macro_rules | `(tactic| walk_at "compareOp Eq ref ref") => `(tactic| refine halt ?_)
local macro_rules | `(tactic| walk_at "call builtin:list.append") => `(tactic| refine halt ?_)
local macro_rules | `(tactic| walk_at "exec For Name Call cons nil") => `(tactic| refine halt ?_)
local macro_rules | `(tactic| walk_at "binaryOp Add ref ref") => `(tactic| refine halt ?_)
local macro_rules | `(tactic| walk_at "exec If Compare cons nil") => `(tactic| refine halt ?_)
local macro_rules | `(tactic| walk_at "call type:range") => `(tactic| refine halt ?_)
set_option maxRecDepth 100000
set_option maxHeartbeats 4000000
theorem compEnd_push {h₀ h' : Heap} {L I C D T : Addr} {m : Str → Option Value} {s₁ : Shared} {o oI oC oD : Obj} {S : List (Addr × Obj) → Prop} {rest : Value → List (Addr × Obj) → Prop} {y : Value} {tk : Nat} {nw : List (Addr × Obj)}
    (F : Fr h₀ L h' m) (N : News h₀ L h' ((T, o) :: (I, oI) :: (C, oC) :: (D, oD) :: nw)) (lT : I < T ∧ C < T ∧ D < T ∧ AllLt T nw) (off : Off3 I C D nw) (hS : S ((T, o) :: nw)) (r : rest y ((T, o) :: nw)) :
    CompEnd h₀ L m s₁ I oI C oC D oD S rest y { s₁ with heap := h', toks := tk } :=
  CompEnd.intro F N ((T, o) :: nw) (fun p hp => by
    rcases List.mem_cons.mp hp with rfl | hp
    · exact .tail _ (.head _)
    · rcases List.mem_cons.mp hp with rfl | hp
      · exact .tail _ (.tail _ (.head _))
      · rcases List.mem_cons.mp hp with rfl | hp
        · exact .tail _ (.tail _ (.tail _ (.head _)))
        · rcases List.mem_cons.mp hp with rfl | hp
          · exact .head _
          · exact .tail _ (.tail _ (.tail _ (.tail _ hp)))) ⟨⟨Nat.ne_of_gt lT.1, Nat.ne_of_gt lT.2.1, Nat.ne_of_gt lT.2.2.1⟩, off⟩ hS r
section
variable {prog : Program} {w : World} {A : Around} {E : Value → Shared → Prop} {s : Shared} {h₀ : Heap} {L l : Addr} {m : Str → Option Value} {news : List (Addr × Obj)} {vs : List Value} {ss : List Str} {Q : Value → Shared → Prop}
theorem sorted_listS (F : Fr h₀ L s.heap m) (N : News h₀ L s.heap news) (hl : s.heap.IsList l vs.toArray) (hS : StrsAre vs ss) (h64 : vs.length < 64)
    (h : ∀ (D : Addr) (h' : Heap) (vs' : List Value) (ss' : List Str) (e : Nat), Fr h₀ L h' m → News h₀ L h' ((D, listOf vs'.toArray e) :: news) → (∀ q ∈ news, q.1 < D) →
      StrsAre vs' ss' → ss'.Perm ss → sortedS ss' = true → Q (.ref D) { s with heap := h' }) :
    wpAny (model prog w) A (call (.builtin "sorted") [.ref l]) Q E s :=
  sorted_N_str F N hl hS h64 fun h' vs' ss' e F' N' a1 a2 a3 => h _ h' vs' ss' e F' N' (fun q hq => Nat.lt_succ_of_lt (Heap.lt_size (N q hq).1)) a1 a2 a3
end
section
variable {prog : Program} {w : World} {A : Around} {E : Value → Shared → Prop} {s : Shared} {env : Env} {h₀ : Heap} {body : List Stmt} {Q : Flow → Shared → Prop}
/-- over a range by ones -/
theorem iter_rng {y : Str} {py : Pos} {r : Addr} {a b : Int} {t u v : Tok} {n : Nat} {news : List (Addr × Obj)} {m₀ : Str → Option Value} (J : Nat → (Str → Option Value) → List (Addr × Obj) → Prop)
    (hh : A.handled = none) (hr : IsRange s.heap r a b 1 t u v) (hsm : Builtin.Range.small a b 1 = true) (hn : Builtin.Range.rangeSize a b 1 = ((n : Nat) : Int)) (F : Fr h₀ env.locals s.heap m₀) (N : News h₀ env.locals s.heap news) (hj : J 0 m₀ news)
    (turn : ∀ i u m₁ news₁ I oI h tk, i < n → J i m₁ news₁ → (∀ p ∈ news₁, p.1 ≠ I) → Fr h₀ env.locals h m₁ → News h₀ env.locals h ((I, oI) :: news₁) →
      wpAny (model prog w) A (assign (.Name y py) env (.int (a + (i : Int)) u)) (fun _ s₂ => wpAny (model prog w) A (execs body env) (TEnd h₀ env.locals I oI [] (J (i + 1)) { s with heap := h, toks := tk } Q) E s₂) E { s with heap := h, toks := tk })
    (done : ∀ m' news' h' tk, Fr h₀ env.locals h' m' → News h₀ env.locals h' news' → J n m' news' → Q .next { s with heap := h', toks := tk }) :
    wpAny (model prog w) A (pyIter (.ref r)) (fun it s₂ => TurnsAt prog w A h₀ env (.Name y py) body Q E it s₂) E s := by
  refine wpAny_pyIter_range hr hsm ?_
  have W : KTurns prog w A (.Name y py) s.heap.objs.size [s.heap.objs.size] [s.heap.objs.size] n (fun i v _ => ∃ t, v = .int (a + (i : Int)) t) _ _ :=
    KTurns.ofWalks (LCg.range_walks (prog := prog) (w := w) (A := A) (I := s.heap.objs.size) hh a n) fun i v s' Q' E' st hq => wpAny_pure hq
  have hL0 : env.locals < s.heap.objs.size := F.ns.lt
  refine turns_core (keep := []) J W (fun b hb => .inl (List.mem_singleton.mp hb)) (fun hm => absurd hL0 ((List.mem_singleton.mp hm) ▸ Nat.lt_irrefl _)) (next_is_new F) (fun p hp => Nat.ne_of_lt (Heap.lt_size (N p hp).1)) (by show IsRangeIter _ _ _ _ _; rw [hn]; simpa using Heap.get?_push_size _ rfl) (fun i h st => ⟨_, st⟩) (F.push _) (fun p hp => ⟨Heap.get?_push_of_some _ (N p hp).1, (N p hp).2⟩) (fun _ hp => nomatch hp) hj
    (fun i v m₁ news₁ oI h tk hi hP hJ _ ho F₁ N₁ => ?_) fun m' news' h' tk F' N' _ hJ => done m' news' h' tk F' N' hJ
  obtain ⟨u, rfl⟩ := hP
  exact turn i u m₁ news₁ _ oI h tk hi hJ ho F₁ N₁
end
def EndAt (s : Shared) (R : Heap → Nat → Prop) (f : Flow) (s' : Shared) : Prop := f = .next ∧ ∃ h tk, s' = { s with heap := h, toks := tk } ∧ R h tk
theorem mono_end {M : Model} {A : Around} {t : Sem Flow} {Q : Flow → Shared → Prop} {E : Value → Shared → Prop} {s : Shared} (R : Heap → Nat → Prop) (h1 : wpAny M A t (EndAt s R) E s) (h2 : ∀ h tk, R h tk → Q .next { s with heap := h, toks := tk }) : wpAny M A t Q E s :=
  wpAny_mono h1 (fun f s' ⟨e, h, tk, e', r⟩ => by subst e; subst e'; exact h2 h tk r) fun _ _ e => e
theorem toldL_nil : toldL [] = [] := by
  have h : ∀ k, ¬ Cl [] k := fun k hk => by
    induction hk with
    | base h _ => exact absurd h (by simp)
    | step _ _ ih => exact ih
  have hw : ¬ Wnd [] := fun ⟨⟨k, _, hk⟩, _⟩ => h k hk
  have ht : ∀ k, inTold [] k = false := fun k => by
    cases e : inTold [] k with
    | false => rfl
    | true =>
      have := inTold_iff.mp e
      unfold Told1 xsW at this
      rw [if_neg hw] at this
      exact absurd this (h k)
  unfold toldL toldN
  rw [List.filter_eq_nil_iff.mpr fun r _ => by rw [ht]; exact Bool.false_ne_true]
  rfl
def extraL : List Str := [Str.ofString "car", Str.ofString "x", Str.ofString "%map", Str.ofString "list", Str.ofString ""]
def namesL : List Str := KN ++ extraL
theorem namesL_len : namesL.length = 28 := by unfold namesL; rw [List.length_append, kn_len]; rfl
theorem range_small : ∀ n : Nat, n < 7 → Builtin.Range.small 0 (n : Int) 1 = true ∧ Builtin.Range.rangeSize 0 (n : Int) 1 = (n : Int) := by decide
theorem passes_then {α : Type} {M : Model} {A₀ : Around} {env : Env} {t : Sem α} {Q : α → Shared → Prop} {E : Value → Shared → Prop} {s : Shared} (hE : PassesOwn M (A₀.deeper env) env E) (h : PassesOwn M (A₀.deeper env) env E → wpAny M (A₀.deeper env) t Q E s) : wpAny M (A₀.deeper env) t Q E s := h hE
theorem law_h : PySem.Challenge.rw_nt0256_01.Holds := by
  refine hd ?_
  k_go0
  (all_goals try k_fold)
  k_steps
  refine unhalt ?_
  (rename Top _ _ _ _ _ _ => T); (rename Frag.In _ _ => X); (rename Below _ _ _ _ => B); (rename Fr _ _ _ _ => F0); (rename News _ _ _ _ => N0); (rename Heap.IsList _ _ _ => hL); (rename IntsAre _ _ => hI); (rename ¬ (_ < _) => hcond)
  rename_i o2 o1 d2 d1 _
  have hc1 : o1.data = Data.cell none := d1
  have hc2 : o2.data = Data.cell none := d2
  obtain ⟨mF, F1⟩ : ∃ mF : Str → Option Value, Fr _ _ _ mF := ⟨_, F0⟩
  clear F0 d1 d2
  refine passes_then (by passes_own) fun hPE => ?_
  refine law_deck_c _ _ _ _ _ hI (by omega) _ _ _ _ _ _ _ _ _ _ _ _ _ _ _ _ _ _ _ _ _ _ B F1 X N0 T rfl (by decide) (by decide) hL ?_
  intro dk cla cvs ks nd nc tj h2 tk2 F2 N2 hcl hdc hcv hk0 hk1
  k_steps
  refine unhalt ?_
  refine prelude_names_c _ _ _ _ _ _ _ _ _ _ _ _ _ _ _ _ _ _ _ _ _ _ _ _ B F2 X N2 T rfl (by decide) (by decide) ?_
  rintro r nw h3 tk3 F3 N3 ⟨kl, kvs0, nk, rfl, rfl, hkk, hklo⟩
  have hkd := hklo _ (.head _)
  have hkc := hklo _ (.tail _ (.head _))
  k_steps
  (rename Fr _ _ _ _ => F4); (rename News _ _ _ _ => N4)
  (rename Below _ _ _ _ => B); (rename Fr _ _ _ _ => F4)
  generalize hL0 : Array.size (Heap.objs _) = L0 at *
  have h1c : L0 + 1 < cla := hcl _ (.tail _ (.head _))
  have h2c : L0 + 1 + 1 < cla := hcl _ (.head _)
  have hc12 : L0 + 1 ≠ L0 + 1 + 1 := Nat.ne_of_lt (Nat.lt_succ_self _)
  have hk1c : L0 + 1 ≠ kl := hklo _ (.tail _ (.tail _ (.tail _ (.head _))))
  have hk2c : L0 + 1 + 1 ≠ kl := hklo _ (.tail _ (.tail _ (.head _)))
  replace N4 := fun p hp => N4 p (.tail _ hp)
  replace N4 : News _ L0 _ [(kl, listOf kvs0.toArray nk), (dk, listOf [Value.ref cla, Value.int 0 tj].toArray nd), (cla, listOf cvs.toArray nc), (L0 + 1 + 1, o2), (L0 + 1, o1)] := N4
  refine storeX_C F4 N4 (c := L0 + 1) (o := o1) rfl (.tail (Ne.symm hk1c) (.tail (Nat.ne_of_gt (Nat.lt_trans h1c hdc)) (.tail (Nat.ne_of_gt h1c) (.tail (Ne.symm hc12) (.head fun _ hp => nomatch hp))))) hc1 ?_ rfl rfl
  intro h5 o5 F5 N5 hc5
  replace N5 : News _ L0 h5 [(kl, listOf kvs0.toArray nk), (dk, listOf [Value.ref cla, Value.int 0 tj].toArray nd), (cla, listOf cvs.toArray nc), (L0 + 1 + 1, o2), (L0 + 1, o5)] := N5
  (try clear F4 N4)
  k_steps
  refine unhalt (wpAny_If ?_)
  k_steps
  refine unhalt ?_
  (rename Fr _ _ _ _ => F6); (rename News _ _ _ _ => N6)
  obtain ⟨mK, hmk, F7⟩ : ∃ mK : Str → Option Value, mK "known" = some (.ref kl) ∧ Fr _ L0 _ mK := ⟨_, if_pos rfl, F6⟩
  (try clear F6)
  have hkl0 : kvs0.length = 23 := by rw [hkk.length, kn_len]
  refine sorted_listS F7 N6 (N6.isList (.head _)) hkk (by omega) ?_
  intro S8 h8 vs8 ss8 e8 F8 N8 l8 hv8 hp8 hs8
  (try clear F7 N6)
  k_steps
  refine unhalt ?_
  have hkm8 : (kl, listOf kvs0.toArray nk) ∈ [(S8, listOf vs8.toArray e8), (kl, listOf kvs0.toArray nk), (dk, listOf [Value.ref cla, Value.int 0 tj].toArray nd), (cla, listOf cvs.toArray nc), (L0 + 1 + 1, o2), (L0 + 1, o5)] := .tail _ (.head _)
  refine LCg.ListComp_U F8 (cl := []) (by with_unfolding_all rfl) (by decide) (by rfl) (by decide) (by rfl) ?_
  k_steps
  refine LCg.CompSrc.ledger rfl F8 N8 (.tail _ (.head _)) (by rw [List.size_toArray, hkl0, sizeLine_eq]; decide) ?_
  intro g9
  refine rest_inv (fun i ys nw => (∀ q ∈ [(S8, listOf vs8.toArray e8), (kl, listOf kvs0.toArray nk), (dk, listOf [Value.ref cla, Value.int 0 tj].toArray nd), (cla, listOf cvs.toArray nc), (L0 + 1 + 1, o2), (L0 + 1, o5)], q ∈ nw) ∧ ∃ kvs : List (Str × Value), kvs.map (·.1) = KN.take i ∧ PairsL nw ys kvs) ?_ ?_ _ 0 [] _ (Nat.zero_add _) ⟨fun _ h => h, [], rfl, .nil⟩
  · rintro i v ys nw I oI C oC D m₂ h tk E' hi hv ⟨hsub, kvs, hkv, hys⟩ hC hx F N off q1 q2 q3
    obtain ⟨x, t, rfl, hxi⟩ := hkk.item i v (by simpa using hv)
    k_steps
    (rename Fr _ _ _ _ => F9); (rename News _ _ _ _ => N9); (rename I < _ ∧ _ => lT)
    refine compEnd_push F9 N9 lT off (.inr ⟨_, .tail _ (hsub _ hkm8), rfl, _, rfl⟩) ⟨fun q hq => .tail _ (hsub q hq), kvs ++ [(x, _)], ?_, (hys.mono fun _ h => .tail _ h).snoc (.head _)⟩
    rw [List.map_append, hkv, List.take_add_one, hxi]
    rfl
  · rintro ys nw ⟨hsub, kvs, hkv, hys⟩
    rw [List.size_toArray, hkl0, List.take_of_length_le (by rw [kn_len]; exact Nat.le_refl _)] at hkv
    unfold LCg.FinE
    intro D10 h10 tk10 F10 N10 o10
    (try clear F8 N8)
    k_steps
    refine unhalt ?_
    (rename Fr _ _ _ _ => F11); (rename News _ _ _ _ => N11)
    have hkvl : kvs.length = 23 := by rw [← kn_len, ← hkv, List.length_map]
    refine dict_pairs rfl F11 N11 T.nolimit (.head _) ((hys.mono fun _ h => .tail _ h).toH N11) (by omega) ?_
    intro dd ddo h12 tk12 F12 N12 hdd lodd hddd
    rw [storedAll_nodup kvs [] (by rw [List.nil_append, hkv]; exact kn_nodup), List.nil_append] at hddd
    (try clear F11 N11)
    k_steps
    refine unhalt ?_
    (rename Fr _ _ _ _ => F13); (rename News _ _ _ _ => N13)
    refine sorted_dictS rfl F13 N13 (.head _) hddd lodd (by omega) ?_
    intro B14 h14 tk14 vs14 ss14 c14 F14 N14 l14 hv14 hp14 hs14
    (try clear F13 N13)
    k_steps
    refine unhalt ?_
    (rename Fr _ _ _ _ => F15); (rename News _ _ _ _ => N15)
    have hsame : ss8 = ss14 := sorted_same hp8 hp14 hs8 hs14 kn_nodup (by rw [hkv]; exact kn_nodup) fun k => by rw [hkv]
    refine ne_strs (N15.isList (.tail _ (.tail _ (.tail _ (hsub _ (.head _)))))) (N15.isList (.head _)) hv8 hv14 (fun x hx => kn_strOk x (hp8.mem_iff.mp hx)) (fun x hx => kn_strOk x (by rw [← hkv]; exact hp14.mem_iff.mp hx)) (by show callerA.units + 3 + 64 < cLine; decide) ?_
    rw [decide_eq_true hsame, Bool.not_true]
    replace N15 : News _ L0 _ [(kl, listOf kvs0.toArray nk), (dk, listOf [Value.ref cla, Value.int 0 tj].toArray nd), (cla, listOf cvs.toArray nc), (L0 + 1 + 1, o2), (L0 + 1, o5)] := fun q hq => N15 q (.tail _ (.tail _ (.tail _ (hsub q (.tail _ hq)))))
    k_steps
    refine unhalt ?_
    (rename Fr _ _ _ _ => F16); (rename News _ _ _ _ => N16)
    refine For_turns F16 ?_ (hE := hPE)
    k_steps
    refine unhalt ?_
    (rename Fr _ _ _ _ => F16); (rename News _ _ _ _ => N16)
    refine range1_rows F16 N16 ?_
    intro h17 tk17 t17 u17 v17 hr17 F17 N17 _
    refine iter_rng (n := 4) (fun i m nx => m "known" = some (.ref kl) ∧ ∃ (j : Int) (tj : Tok) (nd : Nat) (o2' : Obj) (v : Option Value), 0 ≤ j ∧ j ≤ 20 * i ∧ o2'.data = .cell v ∧ nx = [(dk, listOf [Value.ref cla, Value.int j tj].toArray nd), (cla, listOf cvs.toArray nc), (kl, listOf kvs0.toArray nk), (L0 + 1 + 1, o2'), (L0 + 1, o5)])
      rfl hr17 (by decide) (by decide) F17 (news := [(dk, listOf [Value.ref cla, Value.int 0 tj].toArray nd), (cla, listOf cvs.toArray nc), (kl, listOf kvs0.toArray nk), (L0 + 1 + 1, o2), (L0 + 1, o5)]) (fun q hq => N17 q ?_) ⟨hmk, 0, tj, nd, o2, none, by omega, by omega, hc2, rfl⟩ ?_ ?_
    · simp only [List.mem_cons, List.not_mem_nil, or_false] at hq ⊢
      rcases hq with h | h | h | h | h <;> simp [h]
    · rintro i u m₁ news₁ I oI h tk hi ⟨hmk₁, j, tj, nd, o2', v2, hj0, hj1, hc2', rfl⟩ ho F₁ N₁
      replace F₁ : Fr _ L0 h m₁ := F₁
      replace N₁ : News _ L0 h ((I, oI) :: [(dk, listOf [Value.ref cla, Value.int j tj].toArray nd), (cla, listOf cvs.toArray nc), (kl, listOf kvs0.toArray nk), (L0 + 1 + 1, o2'), (L0 + 1, o5)]) := N₁
      k_steps
      refine unhalt ?_
      (rename Fr _ _ _ _ => F18); (rename News _ _ _ _ => N18)
      refine list_copyK F18 N18 (N18.isList (.tail _ (.tail _ (.tail _ (.head _))))) ?_ (by rw [List.size_toArray, hkl0, sizeLine_eq]; decide)
      intro lc cc h19 F19 N19 l19
      (try clear F18 N18)
      k_steps
      refine unhalt ?_
      (rename Fr _ _ _ _ => F20); (rename News _ _ _ _ => N20)
      refine kmk_add_lit F20 N20 (N20.isList (.tail _ (.head _))) (N20.isList (.head _)) rfl ?_ ?_
      rotate_left
      · simp only [List.length_cons, List.length_nil]
        rw [hkl0, sizeLine_eq]; decide
      intro nl h21 F21 N21 l21
      (try clear F20 N20)
      obtain ⟨nvs, hnvs, N22⟩ : ∃ nvs, StrsAre nvs namesL ∧ News _ L0 h21 ((nl, listOf nvs.toArray 0) :: (I, oI) :: [(dk, listOf [Value.ref cla, Value.int j tj].toArray nd), (cla, listOf cvs.toArray nc), (kl, listOf kvs0.toArray nk), (L0 + 1 + 1, o2'), (L0 + 1, o5)]) :=
        ⟨_, StrsAre.append' hkk (.cons _ _ (.cons _ _ (.cons _ _ (.cons _ _ (.cons _ _ .nil))))), fun q hq => N21 q (by
          rcases List.mem_cons.mp hq with rfl | hq
          · exact .head _
          · exact .tail _ (.tail _ (.tail _ hq)))⟩
      have hnI : I ≠ nl := Nat.ne_of_lt (l21 _ (.tail _ (.tail _ (.head _))))
      have hndk : dk ≠ nl := Nat.ne_of_lt (l21 _ (.tail _ (.tail _ (.tail _ (.head _)))))
      have hncl : cla ≠ nl := Nat.ne_of_lt (l21 _ (.tail _ (.tail _ (.tail _ (.tail _ (.head _))))))
      have hnkl : kl ≠ nl := Nat.ne_of_lt (l21 _ (.tail _ (.tail _ (.tail _ (.tail _ (.tail _ (.head _)))))))
      have hnc2 : L0 + 1 + 1 ≠ nl := Nat.ne_of_lt (l21 _ (.tail _ (.tail _ (.tail _ (.tail _ (.tail _ (.tail _ (.head _))))))))
      have hnc1 : L0 + 1 ≠ nl := Nat.ne_of_lt (l21 _ (.tail _ (.tail _ (.tail _ (.tail _ (.tail _ (.tail _ (.tail _ (.head _)))))))))
      have hId : dk ≠ I := ho _ (.head _)
      have hIc : cla ≠ I := ho _ (.tail _ (.head _))
      have hIk : kl ≠ I := ho _ (.tail _ (.tail _ (.head _)))
      have hI2 : L0 + 1 + 1 ≠ I := ho _ (.tail _ (.tail _ (.tail _ (.head _))))
      have hI1 : L0 + 1 ≠ I := ho _ (.tail _ (.tail _ (.tail _ (.tail _ (.head _)))))
      have hd2 : dk ≠ L0 + 1 + 1 := Nat.ne_of_gt (Nat.lt_trans h2c hdc)
      have hd1 : dk ≠ L0 + 1 := Nat.ne_of_gt (Nat.lt_trans h1c hdc)
      clear N21 l21
      k_steps
      refine unhalt ?_
      (rename Fr _ _ _ _ => F24); (rename News _ _ _ _ => N24)
      obtain ⟨o23, hc23, N25⟩ : ∃ o23 : Obj, o23.data = Data.cell (some (Value.ref nl)) ∧ News _ L0 _ [(nl, listOf nvs.toArray 0), (I, oI), (dk, listOf [Value.ref cla, Value.int j tj].toArray nd), (cla, listOf cvs.toArray nc), (kl, listOf kvs0.toArray nk), (L0 + 1 + 1, o23), (L0 + 1, o5)] := ⟨_, by assumption, N24⟩
      clear N24
      obtain ⟨mT, hkT, F25⟩ : ∃ mT : Str → Option Value, mT "known" = some (.ref kl) ∧ Fr _ L0 _ mT := ⟨_, (if_neg (by decide)).trans hmk₁, F24⟩
      (try clear F24)
      refine LCg.Assign_ListComp_U F25 (by rfl) (by with_unfolding_all rfl) (by with_unfolding_all rfl) (by decide) (by rfl) (by decide) (by rfl) (by rfl) (by rfl) ?_
      k_steps
      refine unhalt ?_
      (rename Fr _ _ _ _ => F26); (rename News _ _ _ _ => N26)
      replace N26 : News _ L0 _ ((dk, listOf [Value.ref cla, Value.int j tj].toArray nd) :: [(nl, listOf nvs.toArray 0), (I, oI), (cla, listOf cvs.toArray nc), (kl, listOf kvs0.toArray nk), (L0 + 1 + 1, o23), (L0 + 1, o5)]) := fun q hq => N26 q (by
        simp only [List.mem_cons, List.not_mem_nil, or_false] at hq ⊢
        rcases hq with h | h | h | h | h | h | h <;> simp [h])
      have hdk : ∀ q ∈ [(nl, listOf nvs.toArray 0), (I, oI), (cla, listOf cvs.toArray nc), (kl, listOf kvs0.toArray nk), (L0 + 1 + 1, o23), (L0 + 1, o5)], q.1 ≠ dk := fun q hq => by
        simp only [List.mem_cons, List.not_mem_nil, or_false] at hq
        rcases hq with rfl | rfl | rfl | rfl | rfl | rfl
        · exact hndk.symm
        · exact hId.symm
        · exact Nat.ne_of_lt hdc
        · exact hkd.symm
        · exact hd2.symm
        · exact hd1.symm
      refine law_draw_c _ dk cla cvs ks nd nc j 7 tj _ _ (.tail _ (.tail _ (.head _))) hcv hk0 hk1 hdk hj0 (by omega) (by decide) (by decide) _ _ _ _ _ _ _ _ _ _ _ _ _ _ _ _ _ _ _ _ _ _ B F26 X N26 T rfl (by decide) (by decide) ?_
      rintro r nw h27 tk27 F27 N27 ⟨v, tv, tj1, rfl, hv0, hv1, rfl⟩
      (try clear F26 N26)
      k_steps
      refine unhalt ?_
      (rename Fr _ _ _ _ => F28); (rename News _ _ _ _ => N28)
      refine range1_rows F28 N28 ?_
      intro h29 tk29 t29 u29 v29 hr29 F29 N29 _
      obtain ⟨vn, rfl⟩ : ∃ n : Nat, v = (n : Int) := ⟨v.toNat, (Int.toNat_of_nonneg hv0).symm⟩
      have hvn : vn < 7 := by omega
      refine LCg.CompSrc.range rfl F29 N29 hr29 (range_small vn hvn).1 (range_small vn hvn).2 (by rw [sizeLine_eq]; omega) ?_
      intro g30
      refine rest_inv (fun i ys nw => ∃ tj, nw = (dk, listOf [Value.ref cla, Value.int (j + 1 + (i : Int)) tj].toArray nd) :: [(nl, listOf nvs.toArray 0), (I, oI), (cla, listOf cvs.toArray nc), (kl, listOf kvs0.toArray nk), (L0 + 1 + 1, o23), (L0 + 1, o5)] ∧ ∃ zs, StrsAre ys zs ∧ zs.length = i) ?_ ?_ _ 0 [] _ (Nat.zero_add _) ⟨tj1, by simp, [], .nil, rfl⟩
      · rintro i v ys nw I2 oI2 C oC D m₂ h tk E' hi2 hv ⟨tj2, rfl, zs, hys, hzl⟩ hC hx F N off q1 q2 q3
        obtain ⟨tv2, rfl⟩ := hv
        k_steps
        refine unhalt ?_
        (rename Fr _ _ _ _ => F31); (rename News _ _ _ _ => N31)
        have hdk2 : ∀ q ∈ (I2, oI2) :: (C, oC) :: (D, LCg.lst ys) :: [(nl, listOf nvs.toArray 0), (I, oI), (cla, listOf cvs.toArray nc), (kl, listOf kvs0.toArray nk), (L0 + 1 + 1, o23), (L0 + 1, o5)], q.1 ≠ dk := fun q hq => by
          rcases List.mem_cons.mp hq with rfl | hq
          · exact fun e => off.1.1 e.symm
          · rcases List.mem_cons.mp hq with rfl | hq
            · exact fun e => off.1.2.1 e.symm
            · rcases List.mem_cons.mp hq with rfl | hq
              · exact fun e => off.1.2.2 e.symm
              · exact hdk q hq
        refine law_one_c _ dk cla nl cvs nvs ks namesL nd nc 0 (j + 1 + (i : Int)) tj2 ((I2, oI2) :: (C, oC) :: (D, LCg.lst ys) :: [(nl, listOf nvs.toArray 0), (I, oI), (cla, listOf cvs.toArray nc), (kl, listOf kvs0.toArray nk), (L0 + 1 + 1, o23), (L0 + 1, o5)])
          (.tail _ (.tail _ (.tail _ (.tail _ (.tail _ (.head _)))))) hcv hk0 hk1 hdk2 (by omega) (by omega) (.tail _ (.tail _ (.tail _ (.head _)))) hnvs (by rw [namesL_len]; decide) (by rw [namesL_len]; decide) _ _ _ _ _ _ _ _ _ _ _ _ _ _ _ _ _ _ _ _ _ _ B F31 X (fun q hq => N31 q ?_) T rfl (by decide) (by decide) ?_
        · rcases List.mem_cons.mp hq with rfl | hq
          · exact .tail _ (.tail _ (.tail _ (.head _)))
          · rcases List.mem_cons.mp hq with rfl | hq
            · exact .head _
            · rcases List.mem_cons.mp hq with rfl | hq
              · exact .tail _ (.head _)
              · rcases List.mem_cons.mp hq with rfl | hq
                · exact .tail _ (.tail _ (.head _))
                · exact .tail _ (.tail _ (.tail _ (.tail _ hq)))
        rintro r nw h32 tk32 F32 N32 ⟨x, tx, tj3, rfl, hxm, rfl⟩
        refine LCg.CompEnd.intro F32 N32 ((dk, listOf [Value.ref cla, Value.int (j + 1 + (i : Int) + 1) tj3].toArray nd) :: [(nl, listOf nvs.toArray 0), (I, oI), (cla, listOf cvs.toArray nc), (kl, listOf kvs0.toArray nk), (L0 + 1 + 1, o23), (L0 + 1, o5)]) (fun q hq => ?_) off trivial ⟨tj3, by rw [show j + 1 + (i : Int) + 1 = j + 1 + ((i + 1 : Nat) : Int) by omega], zs ++ [x], StrsAre.append' hys (.cons _ _ .nil), by rw [List.length_append, hzl]; rfl⟩
        · rcases List.mem_cons.mp hq with rfl | hq
          · exact .tail _ (.head _)
          · rcases List.mem_cons.mp hq with rfl | hq
            · exact .tail _ (.tail _ (.head _))
            · rcases List.mem_cons.mp hq with rfl | hq
              · exact .tail _ (.tail _ (.tail _ (.head _)))
              · rcases List.mem_cons.mp hq with rfl | hq
                · exact .head _
                · exact .tail _ (.tail _ (.tail _ (.tail _ hq)))
      · rintro ys nw ⟨tj2, rfl, zs, hys, hzl⟩
        unfold LCg.FinA
        intro asl h40 tk40 F40 N40 o40
        have hoA := off1_all o40
        have hda : dk ≠ asl := hoA _ (.head _)
        obtain ⟨mA, hAa, hAk, F41⟩ : ∃ mA : Str → Option Value, mA "asked" = some (.ref asl) ∧ mA "known" = some (.ref kl) ∧ Fr _ L0 h40 mA := ⟨_, if_pos rfl, (if_neg (by decide)).trans hkT, F40⟩
        clear F40
        k_steps
        refine unhalt ?_
        have hdk3 : ∀ (o : Obj), ∀ q ∈ (asl, o) :: [(nl, listOf nvs.toArray 0), (I, oI), (cla, listOf cvs.toArray nc), (kl, listOf kvs0.toArray nk), (L0 + 1 + 1, o23), (L0 + 1, o5)], q.1 ≠ dk := fun o q hq => by
          rcases List.mem_cons.mp hq with rfl | hq
          · exact fun e => hoA _ (.head _) e.symm
          · exact hdk q hq
        have swap2 : ∀ {a b : Addr × Obj} {r : List (Addr × Obj)} {q : Addr × Obj}, q ∈ a :: b :: r → q ∈ b :: a :: r := fun {a b r q} h => by
          rcases List.mem_cons.mp h with rfl | h
          · exact .tail _ (.head _)
          · rcases List.mem_cons.mp h with rfl | h
            · exact .head _
            · exact .tail _ (.tail _ h)
        refine mono_end (fun h tk => ∃ (jj : Int) (tjj : Tok) (avs : List Value) (na : Nat) (zs' : List Str), Fr T.heap L0 h mA ∧ 0 ≤ jj ∧ jj ≤ 20 * (i : Int) + 20 ∧ StrsAre avs zs' ∧ zs'.length ≤ 500 ∧ News T.heap L0 h ((asl, listOf avs.toArray na) :: (dk, listOf [Value.ref cla, Value.int jj tjj].toArray nd) :: [(nl, listOf nvs.toArray 0), (I, oI), (cla, listOf cvs.toArray nc), (kl, listOf kvs0.toArray nk), (L0 + 1 + 1, o23), (L0 + 1, o5)])) ?_ ?_
        · refine wpAny_If ?_
          k_steps
          refine unhalt ?_
          (rename Fr _ _ _ _ => F42); (rename News _ _ _ _ => N42)
          refine law_draw_c _ dk cla cvs ks nd nc (j + 1 + (vn : Int)) 3 tj2 _ ((asl, LCg.lst ys) :: [(nl, listOf nvs.toArray 0), (I, oI), (cla, listOf cvs.toArray nc), (kl, listOf kvs0.toArray nk), (L0 + 1 + 1, o23), (L0 + 1, o5)]) (.tail _ (.tail _ (.tail _ (.head _)))) hcv hk0 hk1 (hdk3 _) (by omega) (by omega) (by decide) (by decide) _ _ _ _ _ _ _ _ _ _ _ _ _ _ _ _ _ _ _ _ _ _ B F42 X (fun q hq => N42 q (swap2 hq)) T rfl (by decide) (by decide) ?_
          rintro r nw h43 tk43 F43 N43 ⟨v3, tv3, tj3, rfl, hv30, hv31, rfl⟩
          (try clear F42 N42)
          k_steps
          · refine unhalt ?_
            (rename Fr _ _ _ _ => F44); (rename News _ _ _ _ => N44)
            rename_i hz pl2 h44 lt2
            refine law_one_c _ dk cla pl2 cvs _ ks [Str.ofString "call/cc", Str.ofString "call-with-current-continuation"] nd nc 0 (j + 1 + (vn : Int) + 1) tj3 ((pl2, _) :: (asl, LCg.lst ys) :: [(nl, listOf nvs.toArray 0), (I, oI), (cla, listOf cvs.toArray nc), (kl, listOf kvs0.toArray nk), (L0 + 1 + 1, o23), (L0 + 1, o5)])
              (.tail _ (.tail _ (.tail _ (.tail _ (.head _))))) hcv hk0 hk1 (fun q hq => ?_) (by omega) (by omega) (.head _) (.cons _ _ (.cons _ _ .nil)) (by decide) (by decide) _ _ _ _ _ _ _ _ _ _ _ _ _ _ _ _ _ _ _ _ _ _ B F44 X (fun q hq => N44 q (swap2 hq)) T rfl (by decide) (by decide) ?_
            · rcases List.mem_cons.mp hq with rfl | hq
              · exact Nat.ne_of_gt lt2.1
              · exact hdk3 _ q hq
            rintro r nw h45 tk45 F45 N45 ⟨x, tx, tj4, rfl, hxm, rfl⟩
            (try clear F44 N44)
            k_steps
            refine unhalt ?_
            (rename Fr _ _ _ _ => F46); (rename News _ _ _ _ => N46)
            have N47 : News _ L0 _ ((asl, LCg.lst ys) :: (dk, listOf [Value.ref cla, Value.int (j + 1 + (vn : Int) + 1 + 1) tj4].toArray nd) :: [(nl, listOf nvs.toArray 0), (I, oI), (cla, listOf cvs.toArray nc), (kl, listOf kvs0.toArray nk), (L0 + 1 + 1, o23), (L0 + 1, o5)]) := fun q hq => N46 q (by
              rcases List.mem_cons.mp hq with rfl | hq
              · exact .tail _ (.tail _ (.head _))
              · rcases List.mem_cons.mp hq with rfl | hq
                · exact .head _
                · exact .tail _ (.tail _ (.tail _ hq)))
            clear N46
            refine append_K (its := ys.toArray) (n := ys.length) F46 N47 (.head fun q hq => ?_) ?_ (by rw [List.size_toArray, hys.length, hzl, sizeLine_eq]; omega)
            · rcases List.mem_cons.mp hq with rfl | hq
              · exact hda
              · exact hoA q (.tail _ hq)
            intro h48 F48 N48
            rw [List.push_toArray] at N48
            (try clear F46 N47)
            k_steps
            (rename Fr _ _ _ _ => F49); (rename News _ _ _ _ => N49)
            exact ⟨rfl, _, _, rfl, _, _, ys ++ [Value.str x tx], _, zs ++ [x], F49, by omega, by omega, StrsAre.append' hys (.cons _ _ .nil), by rw [List.length_append, hzl, List.length_singleton]; omega, N49⟩
          · (rename Fr _ _ _ _ => F44); (rename News _ _ _ _ => N44)
            exact ⟨rfl, _, _, rfl, _, _, ys, _, zs, F44, by omega, by omega, hys, by omega, fun q hq => N44 q (swap2 hq)⟩
        · rintro h50 tk50 ⟨jj, tjj, avs, na, zs', F50, hjj0, hjj1, hav, hzl', N50⟩
          k_steps
          refine unhalt ?_
          (rename Fr _ _ _ _ => F51); (rename News _ _ _ _ => N51)
          refine law_is_right_c _ asl kl avs kvs0 na nk zs' _ (.head _) hav hzl' (.tail _ (.tail _ (.tail _ (.tail _ (.tail _ (.head _)))))) hkk _ _ _ _ _ _ _ _ _ _ _ _ _ _ _ _ _ _ _ _ _ _ B F51 X N51 T rfl (by decide) (by decide) ?_
          rintro r nw h52 tk52 F52 N52 ⟨rfl, rfl⟩
          (try clear F51 N51)
          k_steps
          (rename Fr _ _ _ _ => F53); (rename News _ _ _ _ => N53)
          refine TEnd.go F53 (news' := [(dk, listOf [Value.ref cla, Value.int jj tjj].toArray nd), (cla, listOf cvs.toArray nc), (kl, listOf kvs0.toArray nk), (L0 + 1 + 1, o23), (L0 + 1, o5)]) (fun q hq => N53 q ?_) (fun q hq => ?_) (fun _ hp => nomatch hp) ⟨hAk, jj, tjj, nd, o23, some (.ref nl), hjj0, by omega, hc23, rfl⟩
          · simp only [List.mem_cons, List.not_mem_nil, or_false] at hq ⊢
            rcases hq with h | h | h | h | h | h <;> simp [h]
          · simp only [List.mem_cons, List.not_mem_nil, or_false] at hq
            rcases hq with rfl | rfl | rfl | rfl | rfl
            · exact hId
            · exact hIc
            · exact hIk
            · exact hI2
            · exact hI1
    · rintro m' news' h' tk F60 N60 ⟨hmk₁, j, tj, nd, o2', v2, hj0, hj1, hc2', rfl⟩
      k_steps
      refine unhalt ?_
      (rename Fr _ _ _ _ => F61); (rename News _ _ _ _ => N61)
      refine list_copyK F61 N61 (N61.isList (.tail _ (.tail _ (.head _)))) ?_ (by rw [List.size_toArray, hkl0, sizeLine_eq]; decide)
      intro lc cc h62 F62 N62 l62
      (try clear F61 N61)
      k_steps
      refine unhalt ?_
      (rename Fr _ _ _ _ => F63); (rename News _ _ _ _ => N63)
      refine law_is_right_c _ lc kl kvs0 kvs0 cc nk KN _ (.head _) hkk (by rw [kn_len]; decide) (.tail _ (.tail _ (.tail _ (.head _)))) hkk _ _ _ _ _ _ _ _ _ _ _ _ _ _ _ _ _ _ _ _ _ _ B F63 X N63 T rfl (by decide) (by decide) ?_
      rintro r nw h64 tk64 F64 N64 ⟨rfl, rfl⟩
      (try clear F63 N63)
      k_steps
      refine unhalt ?_
      (rename Fr _ _ _ _ => F65); (rename News _ _ _ _ => N65)
      rename_i el h65' lel
      refine prelude_for_c _ el [] [] 0 _ (.head _) .nil (by decide) _ _ _ _ _ _ _ _ _ _ _ _ _ _ _ _ _ _ _ _ _ _ B F65 X N65 T rfl (by decide) (by decide) ?_
      rintro r nw h66 tk66 F66 N66 ⟨pl, rs, npl, tl, rfl, rfl, hprs, hpl, htl⟩
      rw [toldL_nil] at hprs
      (try clear F65 N65)
      k_steps
      refine unhalt ?_
      (rename Fr _ _ _ _ => F67); (rename News _ _ _ _ => N67)
      refine eq_told (ps := []) N67 (.tail _ (.head _)) (.head _) (hprs.mono fun q hq => .tail _ (.tail _ (List.mem_append_left _ hq))) (ys := []) .nil (fun _ h => nomatch h) (by show callerA.units + 3 + 64 < cLine; decide) ?_
      k_steps
end Mine
end
theorem PySem.Challenge.cw_nt0256_01_holds : PySem.Challenge.rw_nt0256_01.Holds := by
  exact Mine.law_h
