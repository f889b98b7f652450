import PyProof.Rows.All
import Wide.All
import OpenK.AllK
import Wide.FinOn
import PySem.Challenge.RW_nt0009_01
open PySem PySem.W PyProof.Rows PySem.Calls
set_option Elab.async false
set_option maxRecDepth 100000
set_option rowWalk.seconds 0
set_option compiler.extract_closed false
namespace Mine
theorem said : PySem.Challenge.rw_nt0009_01.wellSaid = true := by decide +kernel
section
local macro_rules | `(({ $_:structInstField, $_:structInstField,* } : $t)) => `((at_once : $t))
local macro_rules | `(tactic| o_law) => `(tactic| refine holds_law said fun _ => ?_)
set_option maxHeartbeats 8000000 in
open_top hd for PySem.Challenge.rw_nt0009_01
end
local macro_rules | `(tactic| k_qdec) => `(tactic| decide +kernel)
theorem top_off : True := by
  w_top off
  exact trivial

section
theorem code_defB {prog : Program} {w : World} {A₀ A : Around} {s : Shared} {base h₀ : Heap} {L : Addr} {m : Str → Option Value} {K : Frag} {p : Program} {loose : List Str} {mean : ExcName → Option Value} {mg mb : Str → Option Value}
    {env : Env} {outer : List Env} {R : Result → Shared → Prop} {name qual : Str} {params : Arguments} {body : List Stmt} {scope : Scope} {dV kV doc pm cdv ct oc : Value} {an od : Option Addr} {osl : Array (Option Value)} {f : Addr} {args : Args} {binds : List (Str × Value)}
    (B : Below A₀ base outer h₀) (F : Fr h₀ L s.heap m) (X₀ : K.In h₀) (T : Top p loose mean mg mb h₀) (hA : A.frames = some (env :: outer)) (hf : env.frame = some L) (hke : env.scope.kind = .function)
    (ho : K.lookup f = some ⟨oc, od, .func (fnOf name qual params body scope dV kV doc pm an cdv ct), osl⟩) (hcd : codeIn K cdv qual = true) (hroom : A.depth < recursionLimit)
    (hbind : BindsTo s (fnOf name qual params body scope dV kV doc pm an cdv ct) args binds) (hloc : ∀ y ∈ binds, scope.names.lookup y.1 = some .local)
    (h : ∀ g L' h₁, g = s.heap → Fr g L' h₁ (fun y => binds.reverse.lookup y) → News g L' h₁ [] → Below A base (env :: outer) g → K.In g → Top p loose mean mg mb g →
      wpAny (model prog w) (A.deeper (envOf qual scope L' f cdv)) (execs body (envOf qual scope L' f cdv))
        (fun fl s' => R (.ok (.ret (match fl with | .ret v => v | _ => .none))) s') (fun _ _ => False)
        { s with heap := h₁, toks := s.toks + binds.length })
    (hco : scope.isCoroutine = false) (hgen : scope.isGenerator = false) (hk : scope.kind = .function)
    (hcell : ∀ x ∈ scope.names, x.2 ≠ .cell) : codeAny (model prog w) A (.call (.ref f) args) R s := by
  have X := X₀.keeps F.keep
  refine codeAny_call_def (fd := fnOf name qual params body scope dV kV doc pm an cdv ct) (body := body) (binds := binds) hroom (X _ _ ho) rfl (T.nolimit.keeps F.keep) (codeRec_of X hcd) rfl hbind hcell hloc (fun h₁ hns hk₁ => ?_) hco hgen hk
  have B₁ := pushX B F hf hke
  refine wpAny_mono (h s.heap s.heap.objs.size h₁ rfl ⟨hns, hk₁, Nat.le_refl _⟩ News.nil ⟨hA, fun b o e => F.keep b o (B.stays b o e), B₁.frames⟩ X (T.keeps F.keep)) (fun fl s' hl => hl) fun _ _ y => y.elim

/-- what a list of made objects reads as, at every heap that has them -/
def Rd (h : Heap) (v : Value) (d : PyData) : Prop := ∃ as, Reads h v d as
def Rf (tl : List (Addr × Obj)) (v : Value) (d : PyData) : Prop := ∀ h : Heap, (∀ p ∈ tl, h.get? p.1 = some p.2) → Rd h v d
theorem Rd.keeps {h h' : Heap} {v : Value} {d : PyData} (r : Rd h v d) (hk : ∀ b o, h.get? b = some o → h'.get? b = some o) : Rd h' v d := let ⟨as, r⟩ := r; ⟨as, PyProof.Rows.Reads.keeps hk r⟩
theorem Rf.mono {tl tl' : List (Addr × Obj)} {v : Value} {d : PyData} (r : Rf tl v d) (hk : ∀ p ∈ tl, p ∈ tl') : Rf tl' v d := fun h hp => r h fun p q => hp p (hk p q)
theorem Rf.at {h₀ h : Heap} {L : Addr} {news tl : List (Addr × Obj)} {v : Value} {d : PyData} (r : Rf tl v d) (N : News h₀ L h news) (hk : ∀ p ∈ tl, p ∈ news) : Rd h v d := r h fun p q => (N p (hk p q)).1

/-- a way back from a call whose frame stood over g -/
def RetB (g : Heap) (L' : Addr) (s₀ : Shared) (Post : List (Addr × Obj) → Value → Prop) (v : Value) (s' : Shared) : Prop :=
  ∃ tl h' tk' m', s' = { s₀ with heap := h', toks := tk' } ∧ Fr g L' h' m' ∧ News g L' h' tl ∧ Post tl v

def Con (f : Addr) (dep : Nat) (Pre : Heap → List Value → Prop) (Post : List (Addr × Obj) → Value → Prop) : Prop :=
  ∀ (w : World) (mean : ExcName → Option Value) (mg mb : Str → Option Value) (dp un : Nat) (gd : Option (List Code)) (cn : Str) (cs : Scope) (a : Addr) (ccd : Value) (cl : List (Str × Addr)) (outer : List Env) (A₀ : Around) (base h₀ : Heap) (L : Addr) (m : Str → Option Value) (news : List (Addr × Obj)) (s : Shared) (vs : List Value)
    (Q E : Value → Shared → Prop),
    Below A₀ base outer h₀ → Fr h₀ L s.heap m → (hd.heap_1 w.params).In h₀ → News h₀ L s.heap news → Top hd.view_1 (looseW hd.view_1 [Str.ofString "CollOptions", Str.ofString "weighted", Str.ofString "is_upper_third", Str.ofString "weights_key"]) mean mg mb h₀ → cs.kind = .function → Pre s.heap vs → dp + dep < recursionLimit → un + 100 * dep + 200 < cLine →
    (∀ r tl h' tk', Fr h₀ L h' m → News h₀ L h' (news ++ tl) → OwnOff tl (news.map (·.1)) → Post tl r → Q r { s with heap := h', toks := tk' }) →
    wpAny (model PySem.Challenge.rw_nt0009_01.row.prog w) (ktrTop dp un gd cn cs L a ccd cl outer) (call (.ref f) vs) Q E s

theorem RetB.back {g h₀ : Heap} {L L' : Addr} {m : Str → Option Value} {news : List (Addr × Obj)} {s : Shared} {Post : List (Addr × Obj) → Value → Prop} {Q : Value → Shared → Prop} {v : Value} {s' : Shared}
    (e : g = s.heap) (F : Fr h₀ L s.heap m) (N : News h₀ L s.heap news)
    (hret : ∀ r tl h' tk', Fr h₀ L h' m → News h₀ L h' (news ++ tl) → OwnOff tl (news.map (·.1)) → Post tl r → Q r { s with heap := h', toks := tk' })
    (h : RetB g L' s Post v s') : Q v s' := by
  obtain ⟨tl, h', tk', m', rfl, F', N', hp⟩ := h
  subst e
  have fr : ∀ p ∈ tl, s.heap.get? p.1 = none := fun p q => (N' p q).2.2
  refine hret v tl h' tk' (F.after F'.keep) (fun p q => ?_) (fun p q b hb e => ?_) hp
  · rcases List.mem_append.mp q with q | q
    · exact ⟨F'.keep _ _ (N p q).1, (N p q).2⟩
    · refine ⟨(N' p q).1, fun e => ?_, ?_⟩
      · obtain ⟨oL, _, _, hL, _⟩ := F.ns
        have := fr p q
        rw [e, hL] at this; cases this
      · cases q2 : h₀.get? p.1 with
        | none => rfl
        | some o => have := fr p q; rw [F.keep _ _ q2] at this; cases this
  · obtain ⟨q2, hq2, rfl⟩ := List.mem_map.mp hb
    have := fr p q
    rw [e, (N _ hq2).1] at this; cases this

theorem Con.use {f : Addr} {dep : Nat} {Pre : Heap → List Value → Prop} {Post : List (Addr × Obj) → Value → Prop} (C : Con f dep Pre Post) {w : World} {mean : ExcName → Option Value} {mg mb : Str → Option Value} {dp un : Nat} {gd : Option (List Code)} {cn : Str} {cs : Scope} {a : Addr} {ccd : Value} {cl : List (Str × Addr)} {outer : List Env} {A₀ : Around} {base h₀ : Heap} {L : Addr} {m : Str → Option Value} {news : List (Addr × Obj)} {s : Shared} {vs : List Value}
    {Q E : Value → Shared → Prop} (B : Below A₀ base outer h₀) (F : Fr h₀ L s.heap m) (X : (hd.heap_1 w.params).In h₀) (N : News h₀ L s.heap news) (T : Top hd.view_1 (looseW hd.view_1 [Str.ofString "CollOptions", Str.ofString "weighted", Str.ofString "is_upper_third", Str.ofString "weights_key"]) mean mg mb h₀) (hk : cs.kind = .function) (P : Pre s.heap vs) (hd : dp + dep < recursionLimit) (hu : un + 100 * dep + 200 < cLine)
    (ret : ∀ r tl h' tk', Fr h₀ L h' m → News h₀ L h' (news ++ tl) → OwnOff tl (news.map (·.1)) → Post tl r → Q r { s with heap := h', toks := tk' }) :
    wpAny (model PySem.Challenge.rw_nt0009_01.row.prog w) (ktrTop dp un gd cn cs L a ccd cl outer) (call (.ref f) vs) Q E s := C _ _ _ _ _ _ _ _ _ _ _ _ _ _ _ _ _ _ _ _ _ _ _ B F X N T hk P hd hu ret

theorem code_defCB {prog : Program} {w : World} {A₀ A : Around} {s : Shared} {base h₀ : Heap} {L : Addr} {m : Str → Option Value} {K : Frag} {p : Program} {loose : List Str} {mean : ExcName → Option Value} {mg mb : Str → Option Value}
    {env : Env} {outer : List Env} {R : Result → Shared → Prop} {name qual : Str} {params : Arguments} {body : List Stmt} {scope : Scope} {dV kV doc pm cdv ct oc : Value} {an od : Option Addr} {osl : Array (Option Value)} {f : Addr} {args : Args} {binds : List (Str × Value)}
    (B : Below A₀ base outer h₀) (F : Fr h₀ L s.heap m) (X₀ : K.In h₀) (T : Top p loose mean mg mb h₀) (hA : A.frames = some (env :: outer)) (hf : env.frame = some L) (hke : env.scope.kind = .function)
    (ho : K.lookup f = some ⟨oc, od, .func (fnOf name qual params body scope dV kV doc pm an cdv ct), osl⟩) (hcd : codeIn K cdv qual = true) (hroom : A.depth < recursionLimit)
    (hbind : BindsTo s (fnOf name qual params body scope dV kV doc pm an cdv ct) args binds) (hkind : (binds.all fun y => scope.names.lookup y.1 == some .local || scope.names.lookup y.1 == some .cell) = true)
    (hnd : ((cellsFrom 0 scope.names []).map (·.1)).Nodup)
    (h : ∀ g L' h₁ tk cells, g = s.heap → Fr g L' h₁ (bindL (envOfC qual scope L' f cdv).kindOf binds fun _ => none) → News g L' h₁ cells →
      CellsAre (bindC (envOfC qual scope L' f cdv).kindOf binds fun _ => none) (cellsFrom (L' + 1) scope.names []) cells → Below A base (env :: outer) g → K.In g → Top p loose mean mg mb g →
      wpAny (model prog w) (A.deeper (envOfC qual scope L' f cdv)) (execs body (envOfC qual scope L' f cdv))
        (fun fl s' => R (.ok (.ret (match fl with | .ret v => v | _ => .none))) s') (fun _ _ => False)
        { s with heap := h₁, toks := tk })
    (hco : scope.isCoroutine = false) (hgen : scope.isGenerator = false) (hk : scope.kind = .function) : codeAny (model prog w) A (.call (.ref f) args) R s := by
  have X := X₀.keeps F.keep
  have B₁ := pushX B F hf hke
  refine codeAny_call_function (fd := fnOf name qual params body scope dV kV doc pm an cdv ct) hroom (X _ _ ho) rfl hco hgen rfl (codeRec_of X hcd) (hbind _ _ _ _ ?_)
  refine wpAny_newFunctionEnv_cells hk (kindsX hkind _) fun env' he s' x => ?_
  subst he
  refine ⟨(T.nolimit.keeps F.keep).keeps x.toInCall.keep, codeAny_func ?_⟩
  obtain ⟨h₁, tk, rfl, _⟩ := x.done
  have hk₁ := x.toInCall.keep
  obtain ⟨cells, NC, Y⟩ := Cl.news (h₀ := s.heap) (Nat.le_refl _) fun n c hm => ⟨x.cell n c (lookup_of_mem_nodup (cellsFrom_names scope.names 0 (s.heap.objs.size + 1) [] [] rfl ▸ hnd) hm), x.above n c hm⟩
  refine wpAny_mono (h s.heap s.heap.objs.size h₁ tk cells rfl ⟨x.toInCall.ns, hk₁, Nat.le_refl _⟩ NC Y ⟨hA, fun b o e => F.keep b o (B.stays b o e), B₁.frames⟩ X (T.keeps F.keep)) (fun fl s' hl => hl) fun _ _ y => y.elim
theorem sub_head {p : Addr × Obj} {B : List (Addr × Obj)} : p ∈ p :: B := List.Mem.head _
theorem sub_next {p b : Addr × Obj} {B : List (Addr × Obj)} (h : p ∈ B) : p ∈ b :: B := List.Mem.tail _ h
theorem sub_left {p : Addr × Obj} {A B : List (Addr × Obj)} (h : p ∈ A) : p ∈ A ++ B := List.mem_append.mpr (.inl h)
theorem sub_right {p : Addr × Obj} {A B : List (Addr × Obj)} (h : p ∈ B) : p ∈ A ++ B := List.mem_append.mpr (.inr h)
theorem sub_nil {B : List (Addr × Obj)} : ∀ p ∈ ([] : List (Addr × Obj)), p ∈ B := List.forall_mem_nil _
theorem sub_cons {a : Addr × Obj} {A B : List (Addr × Obj)} (h : a ∈ B) (k : ∀ p ∈ A, p ∈ B) : ∀ p ∈ a :: A, p ∈ B := List.forall_mem_cons.mpr ⟨h, k⟩
theorem sub_app {A A' B : List (Addr × Obj)} (h : ∀ p ∈ A, p ∈ B) (k : ∀ p ∈ A', p ∈ B) : ∀ p ∈ A ++ A', p ∈ B := fun p hp => (List.mem_append.mp hp).elim (h p) (k p)
theorem sub_id {A : List (Addr × Obj)} : ∀ p ∈ A, p ∈ A := fun _ h => h
theorem sub_tail {b : Addr × Obj} {A B : List (Addr × Obj)} (h : ∀ p ∈ A, p ∈ B) : ∀ p ∈ A, p ∈ b :: B := fun p hp => .tail _ (h p hp)
theorem sub_l {A B C : List (Addr × Obj)} (h : ∀ p ∈ A, p ∈ B) : ∀ p ∈ A, p ∈ B ++ C := fun p hp => List.mem_append.mpr (.inl (h p hp))
theorem sub_r {A B C : List (Addr × Obj)} (h : ∀ p ∈ A, p ∈ C) : ∀ p ∈ A, p ∈ B ++ C := fun p hp => List.mem_append.mpr (.inr (h p hp))
theorem wpAny_opq {α : Type} {M : Model} {A : Around} {t : Sem α} {E : Value → Shared → Prop} {s : Shared} (Q : α → Shared → Prop) (h : ∀ R : α → Shared → Prop, (∀ v s', Q v s' → R v s') → wpAny M A t R E s) : wpAny M A t Q E s := h Q fun _ _ h => h
theorem storeX_LL {M : Model} {A : Around} {E : Value → Shared → Prop} {s : Shared} {h₀ : Heap} {L a : Addr} {m : Str → Option Value} {cn : Str} {cs : Scope} {ccd : Value} {cl : List (Str × Addr)} {x : Str} {v : Value} {Q : Unit → Shared → Prop} {news : List (Addr × Obj)}
    (F : Fr h₀ L s.heap m) (N : News h₀ L s.heap news) (h : ∀ h' tk', let m' : Str → Option Value := fun y => if y = x then some v else m y; Fr h₀ L h' m' → News h₀ L h' news → Q () { s with heap := h', toks := tk' })
    (hk : cs.kind = .function := by rfl) (hx : (envX cn cs L a ccd cl).kindOf x = some .local := by rfl) : wpAny M A (storeName (envX cn cs L a ccd cl) x v) Q E s := storeX_L F N (fun h' => h h' _) hk hx
theorem sk {z x : Str} [Decidable (z = x)] {v r t : Option Value} (h : z ≠ x) (k : r = t) : (if z = x then v else r) = t := (if_neg h).trans k
theorem skc {z : Str} {l : List Str} {v r : Option Value} (h : l.contains z = false) : (if l.contains z = true then v else r) = r := if_neg (fun e => by rw [h] at e; exact absurd e (by decide))
theorem ne_in {z x : Str} {l : List Str} (h : l.contains z = false) (hx : x ∈ l) : z ≠ x := fun e => by
  subst e
  rw [List.contains_iff_mem.mpr hx] at h
  exact absurd h (by decide)
theorem ne_h {z x : Str} {v : Value} {r : List (Str × Value)} (h : ∀ p ∈ (x, v) :: r, z ≠ p.1) : z ≠ x := h _ (.head _)
theorem ne_t {z : Str} {q : Str × Value} {r : List (Str × Value)} (h : ∀ p ∈ q :: r, z ≠ p.1) : ∀ p ∈ r, z ≠ p.1 := fun p hp => h p (.tail _ hp)
theorem nm_head {x : Str} {l : List Str} : x ∈ x :: l := .head _
theorem nm_tail {x y : Str} {l : List Str} (h : x ∈ l) : x ∈ y :: l := .tail _ h
theorem room_0 {d n R : Nat} (h : d + n < R) : d < R := Nat.lt_of_le_of_lt (Nat.le_add_right _ _) h
theorem room_d {d n b R : Nat} (h : d + n < R) (k : 1 + b ≤ n) : d + 1 + b < R := Nat.lt_of_le_of_lt (by rw [Nat.add_assoc]; exact Nat.add_le_add_left k d) h
theorem room_u {u n b C : Nat} (h : u + 100 * n + 200 < C) (k : 3 + 100 * b ≤ 100 * n) : u + 3 + 100 * b + 200 < C := by omega
theorem fit100 {n : Nat} (h : n ≤ 100) : n ≤ sizeLine := by rw [sizeLine_eq]; omega
theorem fit500 {n : Nat} (h : n ≤ 500) : n ≤ sizeLine := by rw [sizeLine_eq]; omega
theorem fit1000 {n : Nat} (h : n ≤ 1000) : n ≤ sizeLine := by rw [sizeLine_eq]; omega
end

section
def ForAt (prog : Program) (w : World) (A : Around) (env : Env) (target : Expr) (body : List Stmt) (Q : Flow → Shared → Prop) (E : Value → Shared → Prop) (xv : Value) (s₁ : Shared) : Prop :=
  wpAny (model prog w) A (pyIter xv) (fun it s₂ => codeAny (model prog w) A (.forLoop target it body [] env) (fun r s' => match r with | .ok f => Q f s' | .error e => cameBackBy (model prog w) A env E e s') s₂) E s₁

section
variable {prog : Program} {w : World} {A : Around} {E : Value → Shared → Prop} {s : Shared} {env : Env} {h₀ : Heap} {target : Expr} {body : List Stmt} {Q : Flow → Shared → Prop}

theorem for_any {h₀ : Heap} {m : Str → Option Value} {iter : Expr} {pos : Pos} (_F : Fr h₀ env.locals s.heap m) (h : wpAny (model prog w) A (eval iter env) (ForAt prog w A env target body Q E) E s) (hs : ∀ x, foldedSetIterable iter env x = pure x := by intro _; rfl) :
    wpAny (model prog w) A (exec (.For target iter body [] pos) env) Q E s := wpAny_For h hs

/-- a for over a list that stays as it is: lst are the list's own entries of the ledger (none where it stood before) -/
theorem for_list {l : Addr} {vs : List Value} {m₀ : Str → Option Value} {nx₀ lst : List (Addr × Obj)} (J : Nat → (Str → Option Value) → List (Addr × Obj) → Prop)
    (hh : A.handled = none) (F : Fr h₀ env.locals s.heap m₀) (N : News h₀ env.locals s.heap (nx₀ ++ lst)) (hoff : OwnOff lst (nx₀.map (·.1)))
    (hl : ∀ h : Heap, (∀ b o, h₀.get? b = some o → h.get? b = some o) → (∀ p ∈ lst, h.get? p.1 = some p.2) → h.IsList l vs.toArray) (hj : J 0 m₀ nx₀)
    (turn : ∀ i v m₁ nx h tk own, vs[i]? = some v → OwnOff own (nx.map (·.1)) → (∀ p ∈ lst, p ∈ own) → J i m₁ nx → Fr h₀ env.locals h m₁ → News h₀ env.locals h (nx ++ own) →
      wpAny (model prog w) A (assign target env v) (fun _ s₂ => wpAny (model prog w) A (execs body env) (InvPostG h₀ env.locals (J (i + 1)) own { s with heap := h, toks := tk } Q) E s₂) E { s with heap := h, toks := tk })
    (done : ∀ m₁ nx h tk, J vs.length m₁ nx → OwnOff lst (nx.map (·.1)) → Fr h₀ env.locals h m₁ → News h₀ env.locals h (nx ++ lst) → Q .next { s with heap := h, toks := tk })
    (hE : PassesOwn (model prog w) A env E := by passes_own) :
    ForAt prog w A env target body Q E (.ref l) s := by
  have hls : s.heap.IsList l vs.toArray := hl _ F.keep fun p q => (N p (List.mem_append.mpr (.inr q))).1
  have hlt : l < s.heap.objs.size := by obtain ⟨o, e, _⟩ := hls; exact Heap.lt_size e
  refine wpAny_pyIter_list hls ?_
  have hI0 : h₀.get? s.heap.objs.size = none := next_is_new F
  have hIL : env.locals ≠ s.heap.objs.size := Nat.ne_of_lt F.ns.lt
  have ltI : ∀ p ∈ nx₀ ++ lst, p.1 ≠ s.heap.objs.size := fun p hp => Nat.ne_of_lt (Heap.lt_size (N p hp).1)
  have up : ∀ b o, s.heap.get? b = some o → (s.heap.push { cls := .type "list_iterator", data := .fields #[.ref l, .int 0 0] }).get? b = some o := fun b o e => Heap.get?_push_of_some _ e
  generalize hI : s.heap.objs.size = I at *
  have hlI : l ≠ I := Nat.ne_of_lt hlt
  have offI : ∀ p ∈ lst, p.1 ≠ I := fun p hp => ltI p (List.mem_append.mpr (.inr hp))
  refine codeAny_forLoop_any
    (fun n s' => ∃ h' tk m' nx i, s' = { s with heap := h', toks := tk } ∧ h'.IsListIter I l i ∧ Fr h₀ env.locals h' m' ∧ News h₀ env.locals h' (nx ++ lst) ∧ OwnOff lst (nx.map (·.1)) ∧ (∀ p ∈ nx, p.1 ≠ I) ∧ J i m' nx ∧ i ≤ vs.length ∧ n = vs.length + 1 - i) ?_ (vs.length + 1)
    ⟨_, s.toks, m₀, nx₀, 0, rfl, ⟨_, by rw [← hI]; exact Heap.get?_push_size _ rfl, rfl, rfl⟩, F.push _, fun p hp => ⟨up _ _ (N p hp).1, (N p hp).2⟩, hoff, fun p hp => ltI p (List.mem_append.mpr (.inl hp)), hj, Nat.zero_le _, rfl⟩
  rintro n s' ⟨h', tk, m', nx, i, rfl, hit, F', N', hoff', hnI, hJ, hi, rfl⟩
  have hl' : h'.IsList l vs.toArray := hl _ F'.keep fun p q => (N' p (List.mem_append.mpr (.inr q))).1
  have hall : ∀ p ∈ nx ++ lst, p.1 ≠ I := fun p hp => (List.mem_append.mp hp).elim (hnI p) (offI p)
  have next : ∀ h₁ : Heap, (∀ b o, b ≠ I → h'.get? b = some o → h₁.get? b = some o) → Fr h₀ env.locals h₁ m' ∧ News h₀ env.locals h₁ (nx ++ lst) := fun h₁ hk₁ =>
    ⟨⟨F'.ns.at' fun o e => hk₁ _ o hIL e, fun b o e => hk₁ b o (fun q => by rw [q, hI0] at e; cases e) (F'.keep b o e), F'.above⟩, fun p hp => ⟨hk₁ _ _ (hall p hp) (N' p hp).1, (N' p hp).2⟩⟩
  cases hv : vs[i]? with
  | none =>
    have hin : i = vs.length := Nat.le_antisymm hi (by simpa using hv)
    subst hin
    refine wpAny_pyNext_list_end hh hit hl' (by simp) fun h₁ he₁ => wpAny_execs_nil ?_
    obtain ⟨F₁, N₁⟩ := next h₁ fun b o hb e => he₁ b o hb e
    exact done m' nx h₁ tk hJ hoff' F₁ N₁
  | some v =>
    have hlt' : i < vs.length := (List.getElem?_eq_some_iff.mp hv).1
    refine wpAny_pyNext_list_item hit hl' (x := v) (by simpa using hv) fun h₁ hit₁ hs₁ => ?_
    obtain ⟨F₁, N₁⟩ := next h₁ fun b o hb e => hs₁.extBut b o hb e
    obtain ⟨oI, hoI, hcI, hdI⟩ := id hit₁
    have hoff₁ : OwnOff ((I, oI) :: lst) (nx.map (·.1)) := by
      intro p hp b hb e
      rcases List.mem_cons.mp hp with rfl | hp
      · obtain ⟨q, hq, rfl⟩ := List.mem_map.mp hb
        exact hnI q hq e.symm
      · exact hoff' p hp b hb e
    have N₂ : News h₀ env.locals h₁ (nx ++ ((I, oI) :: lst)) := by
      intro p hp
      rcases List.mem_append.mp hp with hp | hp
      · exact N₁ p (List.mem_append.mpr (.inl hp))
      · rcases List.mem_cons.mp hp with rfl | hp
        · exact ⟨hoI, Ne.symm hIL, hI0⟩
        · exact N₁ p (List.mem_append.mpr (.inr hp))
    have go : ∀ (Q' : Unit → Shared → Prop) (E' : Value → Shared → Prop), Q' () { s with heap := h₁, toks := tk } → wpAny (model prog w) A (letOwnedTupleGo target (.ref I) v) Q' E' { s with heap := h₁, toks := tk } := by
      intro Q' E' h
      unfold letOwnedTupleGo
      cases target <;> first
        | exact wpAny_pure h
        | (cases v <;> first
            | exact wpAny_pure h
            | (refine wpAny_bind (wpAny_load hoI ?_)
               rw [hcI, hdI]
               exact wpAny_pure h))
    refine go _ _ ?_
    have T := turn i v m' nx h₁ tk ((I, oI) :: lst) hv hoff₁ (fun p hp => List.mem_cons_of_mem _ hp) hJ F₁ N₂
    have T' : wpAny (model prog w) A (assign target env v) (fun _ s₂ => wpAny (model prog w) A (execs body env) (InvPostG h₀ env.locals (J (i + 1)) ((I, oI) :: lst) { s with heap := h₁, toks := tk } Q) (notedBy (model prog w) A env fun e s' => cameBackBy (model prog w) A env E e s') s₂) (notedBy (model prog w) A env fun e s' => cameBackBy (model prog w) A env E e s') { s with heap := h₁, toks := tk } :=
      wpAny_passesOwn hE (wpAny_mono T (fun _ s₂ h₂ => wpAny_passesOwn hE h₂) fun _ _ e => e)
    refine wpAny_mono T' (fun _ s₂ h₂ => wpAny_mono h₂ (fun f s₃ h₃ => ?_) fun _ _ e => e) fun _ _ e => e
    have fin : InvEndG h₀ env.locals (J (i + 1)) ((I, oI) :: lst) { s with heap := h₁, toks := tk } s₃ → ∃ k, k < vs.length + 1 - i ∧ ∃ h' tk m' nx j, s₃ = { s with heap := h', toks := tk } ∧ h'.IsListIter I l j ∧ Fr h₀ env.locals h' m' ∧ News h₀ env.locals h' (nx ++ lst) ∧ OwnOff lst (nx.map (·.1)) ∧ (∀ p ∈ nx, p.1 ≠ I) ∧ J j m' nx ∧ j ≤ vs.length ∧ k = vs.length + 1 - j := by
      rintro ⟨h₄, tk₄, m₄, news₄, nx₄, rfl, F₄, N₄, hn, ho, ha, hJ₄⟩
      refine ⟨vs.length + 1 - (i + 1), by omega, h₄, tk₄, m₄, nx₄, i + 1, rfl, ⟨oI, (N₄ _ (ho _ (.head _))).1, hcI, hdI⟩, F₄, ?_, fun p hp => ha p (.tail _ hp), fun p hp e => ha (I, oI) (.head _) p.1 (List.mem_map.mpr ⟨p, hp, rfl⟩) e.symm, hJ₄, hlt', rfl⟩
      intro p hp
      rcases List.mem_append.mp hp with hp | hp
      · exact N₄ p (hn p hp)
      · exact N₄ p (ho p (.tail _ hp))
    cases f with
    | next => exact fin h₃
    | cont => exact fin h₃
    | brk => exact h₃
    | ret v => exact h₃

/-- a for over a range by ones -/
theorem for_range {r : Addr} {a b : Int} {t u v : Tok} {n : Nat} {x : Str} {px : Pos} {m₀ : Str → Option Value} {nx₀ : List (Addr × Obj)} (J : Nat → (Str → Option Value) → List (Addr × Obj) → Prop)
    (hh : A.handled = none) (F : Fr h₀ env.locals s.heap m₀) (N : News h₀ env.locals s.heap nx₀)
    (hr : IsRange s.heap r a b 1 t u v) (hsmall : Builtin.Range.small a b 1 = true) (hsz : Builtin.Range.rangeSize a b 1 = (n : Int)) (hj : J 0 m₀ nx₀)
    (turn : ∀ i t m₁ nx h tk own, i < n → OwnOff own (nx.map (·.1)) → J i m₁ nx → Fr h₀ env.locals h m₁ → News h₀ env.locals h (nx ++ own) →
      wpAny (model prog w) A (assign (.Name x px) env (.int (a + (i : Int)) t)) (fun _ s₂ => wpAny (model prog w) A (execs body env) (InvPostG h₀ env.locals (J (i + 1)) own { s with heap := h, toks := tk } Q) E s₂) E { s with heap := h, toks := tk })
    (done : ∀ m₁ nx h tk, J n m₁ nx → Fr h₀ env.locals h m₁ → News h₀ env.locals h nx → Q .next { s with heap := h, toks := tk })
    (hE : PassesOwn (model prog w) A env E := by passes_own) :
    ForAt prog w A env (.Name x px) body Q E (.ref r) s := by
  refine wpAny_pyIter_range hr hsmall ?_
  rw [hsz]
  have hI0 : h₀.get? s.heap.objs.size = none := next_is_new F
  have hIL : env.locals ≠ s.heap.objs.size := Nat.ne_of_lt F.ns.lt
  have ltI : ∀ p ∈ nx₀, p.1 ≠ s.heap.objs.size := fun p hp => Nat.ne_of_lt (Heap.lt_size (N p hp).1)
  have W : Walks prog w A s.heap.objs.size [s.heap.objs.size] [s.heap.objs.size] n _ _ := LCg.range_walks hh a n
  have hI' : (s.heap.push { cls := .type "range_iterator", data := .fields #[rawInt a, rawInt (n : Int), rawInt 1] }).get? s.heap.objs.size = some { cls := .type "range_iterator", data := .fields #[rawInt a, rawInt (n : Int), rawInt 1] } := Heap.get?_push_size _ rfl
  have up : ∀ b o, s.heap.get? b = some o → (s.heap.push { cls := .type "range_iterator", data := .fields #[rawInt a, rawInt (n : Int), rawInt 1] }).get? b = some o := fun b o e => Heap.get?_push_of_some _ e
  generalize hI : s.heap.objs.size = I at *
  have st0 : IsRangeIter (s.heap.push { cls := .type "range_iterator", data := .fields #[rawInt a, rawInt (n : Int), rawInt 1] }) I (a + ((0 : Nat) : Int) * 1) ((n : Int) - ((0 : Nat) : Int)) 1 := by simpa using hI'
  refine codeAny_forLoop_any
    (fun k s' => ∃ h' tk m' nx i, s' = { s with heap := h', toks := tk } ∧ IsRangeIter h' I (a + (i : Nat) * 1) ((n : Int) - (i : Nat)) 1 ∧ Fr h₀ env.locals h' m' ∧ News h₀ env.locals h' nx ∧ (∀ p ∈ nx, p.1 ≠ I) ∧ J i m' nx ∧ i ≤ n ∧ k = n + 1 - i) ?_ (n + 1)
    ⟨_, s.toks, m₀, nx₀, 0, rfl, st0, F.push _, fun p hp => ⟨up _ _ (N p hp).1, (N p hp).2⟩, ltI, hj, Nat.zero_le _, rfl⟩
  rintro k s' ⟨h', tk, m', nx, i, rfl, hit, F', N', hnI, hJ, hi, rfl⟩
  have next : ∀ h₁ : Heap, (∀ b o, b ∉ [I] → h'.get? b = some o → h₁.get? b = some o) → Fr h₀ env.locals h₁ m' ∧ News h₀ env.locals h₁ nx := fun h₁ hk₁ =>
    ⟨⟨F'.ns.at' fun o e => hk₁ _ o (by simpa using hIL) e, fun b o e => hk₁ b o (fun q => by rw [List.mem_singleton.mp q, hI0] at e; cases e) (F'.keep b o e), F'.above⟩, fun p hp => ⟨hk₁ _ _ (by simpa using hnI p hp) (N' p hp).1, (N' p hp).2⟩⟩
  by_cases hlt' : i < n
  · refine W.item i _ _ _ hlt' hit fun v h₁ tk₁ hP hit₁ hk₁ => ?_
    obtain ⟨t₁, rfl⟩ := hP
    obtain ⟨F₁, N₁⟩ := next h₁ hk₁
    have hoI : h₁.get? I = some _ := hit₁
    generalize hIo : ({ cls := .type "range_iterator", data := .fields #[rawInt (a + ((i + 1 : Nat) : Int) * 1), rawInt ((n : Int) - ((i + 1 : Nat) : Int)), rawInt 1] } : Obj) = oI at *
    have hoI2 : h₁.get? I = some oI := by rw [← hIo]; exact hit₁
    have hoff₁ : OwnOff [(I, oI)] (nx.map (·.1)) := by
      intro p hp b hb e
      rw [List.mem_singleton.mp hp] at e
      obtain ⟨q, hq, rfl⟩ := List.mem_map.mp hb
      exact hnI q hq e.symm
    have N₂ : News h₀ env.locals h₁ (nx ++ [(I, oI)]) := by
      intro p hp
      rcases List.mem_append.mp hp with hp | hp
      · exact N₁ p hp
      · rw [List.mem_singleton.mp hp]; exact ⟨hoI2, Ne.symm hIL, hI0⟩
    refine wpAny_pure ?_
    have T := turn i t₁ m' nx h₁ tk₁ [(I, oI)] hlt' hoff₁ hJ F₁ N₂
    have T' : wpAny (model prog w) A (assign (.Name x px) env (.int (a + (i : Int)) t₁)) (fun _ s₂ => wpAny (model prog w) A (execs body env) (InvPostG h₀ env.locals (J (i + 1)) [(I, oI)] { s with heap := h₁, toks := tk₁ } Q) (notedBy (model prog w) A env fun e s' => cameBackBy (model prog w) A env E e s') s₂) (notedBy (model prog w) A env fun e s' => cameBackBy (model prog w) A env E e s') { s with heap := h₁, toks := tk₁ } :=
      wpAny_passesOwn hE (wpAny_mono T (fun _ s₂ h₂ => wpAny_passesOwn hE h₂) fun _ _ e => e)
    refine wpAny_mono T' (fun _ s₂ h₂ => wpAny_mono h₂ (fun f s₃ h₃ => ?_) fun _ _ e => e) fun _ _ e => e
    have fin : InvEndG h₀ env.locals (J (i + 1)) [(I, oI)] { s with heap := h₁, toks := tk₁ } s₃ → ∃ k, k < n + 1 - i ∧ ∃ h' tk m' nx j, s₃ = { s with heap := h', toks := tk } ∧ IsRangeIter h' I (a + (j : Nat) * 1) ((n : Int) - (j : Nat)) 1 ∧ Fr h₀ env.locals h' m' ∧ News h₀ env.locals h' nx ∧ (∀ p ∈ nx, p.1 ≠ I) ∧ J j m' nx ∧ j ≤ n ∧ k = n + 1 - j := by
      rintro ⟨h₄, tk₄, m₄, news₄, nx₄, rfl, F₄, N₄, hn, ho, ha, hJ₄⟩
      refine ⟨n + 1 - (i + 1), by omega, h₄, tk₄, m₄, nx₄, i + 1, rfl, ?_, F₄, fun p hp => N₄ p (hn p hp), fun p hp e => ha (I, oI) (.head _) p.1 (List.mem_map.mpr ⟨p, hp, rfl⟩) e.symm, hJ₄, hlt', rfl⟩
      show h₄.get? I = some _
      rw [(N₄ _ (ho _ (.head _))).1, ← hIo]
    cases f with
    | next => exact fin h₃
    | cont => exact fin h₃
    | brk => exact h₃
    | ret v => exact h₃
  · have hin : i = n := by omega
    subst hin
    refine W.done _ _ _ hit fun h₁ tk₁ hk₁ => wpAny_execs_nil ?_
    obtain ⟨F₁, N₁⟩ := next h₁ hk₁
    exact done m' nx h₁ tk₁ hJ F₁ N₁
end
end

section
inductive RfAll (tl : List (Addr × Obj)) : List Value → List PyData → Prop
  | nil : RfAll tl [] []
  | cons {v : Value} {vs : List Value} {d : PyData} {ds : List PyData} : Rf tl v d → RfAll tl vs ds → RfAll tl (v :: vs) (d :: ds)
theorem RfAll.mono {tl tl' : List (Addr × Obj)} (hk : ∀ p ∈ tl, p ∈ tl') : ∀ {vs : List Value} {ds : List PyData}, RfAll tl vs ds → RfAll tl' vs ds
  | _, _, .nil => .nil
  | _, _, .cons h r => .cons (h.mono hk) (RfAll.mono hk r)
theorem RfAll.append {tl : List (Addr × Obj)} : ∀ {vs ws : List Value} {ds es : List PyData}, RfAll tl vs ds → RfAll tl ws es → RfAll tl (vs ++ ws) (ds ++ es)
  | _, _, _, _, .nil, k => k
  | _, _, _, _, .cons h r, k => .cons h (RfAll.append r k)
theorem RfAll.length {tl : List (Addr × Obj)} : ∀ {vs : List Value} {ds : List PyData}, RfAll tl vs ds → vs.length = ds.length
  | _, _, .nil => rfl
  | _, _, .cons _ r => by simp [RfAll.length r]
theorem RfAll.reads {tl : List (Addr × Obj)} {h : Heap} (hp : ∀ p ∈ tl, h.get? p.1 = some p.2) : ∀ {vs : List Value} {ds : List PyData}, RfAll tl vs ds → ∃ as, ReadsAll h vs ds as
  | _, _, .nil => ⟨_, .nil⟩
  | _, _, .cons h r => by
    obtain ⟨as, q⟩ := h _ hp
    obtain ⟨bs, p⟩ := RfAll.reads hp r
    exact ⟨_, .cons q p⟩
theorem Rf.int {tl : List (Addr × Obj)} {i : Int} {t : Tok} : Rf tl (.int i t) (.int i) := fun _ _ => ⟨_, .int i t⟩
theorem Rf.bool {tl : List (Addr × Obj)} {b : Bool} : Rf tl (.bool b) (.bool b) := fun _ _ => ⟨_, .bool b⟩
theorem Rf.none {tl : List (Addr × Obj)} : Rf tl .none .none := fun _ _ => ⟨_, .none⟩
theorem Rf.tuple {tl : List (Addr × Obj)} {a : Addr} {vs : Array Value} {n : Nat} {ds : List PyData} (hm : (a, ({ cls := .type "tuple", data := .seq vs n } : Obj)) ∈ tl) (r : RfAll tl vs.toList ds) : Rf tl (.ref a) (.tuple ds) := fun h hp => by
  obtain ⟨as, q⟩ := r.reads hp
  exact ⟨_, reads_tuple_at (hp _ hm) rfl rfl q⟩
theorem Rf.list {tl : List (Addr × Obj)} {a : Addr} {vs : Array Value} {n : Nat} {ds : List PyData} (hm : (a, ({ cls := .type "list", data := .seq vs n } : Obj)) ∈ tl) (r : RfAll tl vs.toList ds) : Rf tl (.ref a) (.list ds) := fun h hp => by
  obtain ⟨as, q⟩ := r.reads hp
  exact ⟨_, reads_list_at (hp _ hm) rfl rfl q⟩
theorem RfAll.ints {tl : List (Addr × Obj)} : ∀ {vs : List Value} {ns : List Int}, IntsAre vs ns → RfAll tl vs (ns.map .int)
  | _, _, .nil => .nil
  | _, _, .cons _ _ r => .cons Rf.int (RfAll.ints r)

theorem readsAll_get {h : Heap} : ∀ {vs : List Value} {ds : List PyData} {as : List Addr}, ReadsAll h vs ds as → ∀ (i : Nat) (v : Value), vs[i]? = some v → ∃ d, ds[i]? = some d ∧ Rd h v d
  | _, _, _, .nil, i, v, e => by simp at e
  | _, _, _, .cons r rs, 0, v, e => by simp at e; subst e; exact ⟨_, rfl, _, r⟩
  | _, _, _, .cons r rs, i + 1, v, e => readsAll_get rs i v (by simpa using e)
theorem readsAll_len {h : Heap} : ∀ {vs : List Value} {ds : List PyData} {as : List Addr}, ReadsAll h vs ds as → vs.length = ds.length
  | _, _, _, .nil => rfl
  | _, _, _, .cons _ rs => by simp [readsAll_len rs]
/-- a list that reads, opened -/
theorem rd_list {h : Heap} {v : Value} {ds : List PyData} (r : Rd h v (.list ds)) : ∃ (a : Addr) (l : List Value), v = .ref a ∧ h.IsList a l.toArray ∧ l.length = ds.length ∧ ∀ (i : Nat) (u : Value), l[i]? = some u → ∃ d, ds[i]? = some d ∧ Rd h u d := by
  obtain ⟨as, r⟩ := r
  obtain ⟨a, l, bs, e, _, hl, ra⟩ := reads_list_items r
  exact ⟨a, l, e, hl, readsAll_len ra, readsAll_get ra⟩
theorem rd_int {h : Heap} {v : Value} {n : Int} (r : Rd h v (.int n)) : ∃ t, v = .int n t := let ⟨_, r⟩ := r; let ⟨t, e, _⟩ := reads_int_inv r; ⟨t, e⟩
theorem rd_bool {h : Heap} {v : Value} {n : Bool} (r : Rd h v (.bool n)) : v = .bool n := let ⟨_, r⟩ := r; (reads_bool_inv r).1
theorem rd_ints {h : Heap} {v : Value} {ns : List Int} (r : Rd h v (.list (ns.map .int))) : ∃ (a : Addr) (l : List Value), v = .ref a ∧ h.IsList a l.toArray ∧ IntsAre l ns := by
  obtain ⟨as, r⟩ := r
  obtain ⟨a, l, bs, e, eas, hl, ra⟩ := reads_list_items r
  refine ⟨a, l, e, hl, ?_⟩
  clear hl r e eas
  induction l generalizing ns bs with
  | nil => cases ns with
    | nil => exact .nil
    | cons n ns => cases ra
  | cons x l ih => cases ns with
    | nil => cases ra
    | cons n ns =>
      cases ra with
      | cons r rs =>
        obtain ⟨t, rfl, _⟩ := reads_int_inv r
        exact .cons _ t (ih _ rs)

abbrev Elem := Int × Int × Int × Bool
abbrev Row := Int × Int × Int × Int
def eP (e : Elem) : PyData := .tuple [.int e.1, .int e.2.1, .int e.2.2.1, .bool e.2.2.2]
def rP (e : Row) : PyData := .tuple [.int e.1, .int e.2.1, .int e.2.2.1, .int e.2.2.2]
theorem rd_elem {h : Heap} {v : Value} {e : Elem} (r : Rd h v (eP e)) : ∃ a t1 t2 t3, v = .ref a ∧ IsTup h a #[.int e.1 t1, .int e.2.1 t2, .int e.2.2.1 t3, .bool e.2.2.2] := by
  obtain ⟨as, r⟩ := r
  obtain ⟨a, l, e, hl, ra⟩ := reads_tuple_items r
  cases ra with | cons r1 ra => cases ra with | cons r2 ra => cases ra with | cons r3 ra => cases ra with | cons r4 ra =>
    cases ra
    obtain ⟨t1, rfl, _⟩ := reads_int_inv r1
    obtain ⟨t2, rfl, _⟩ := reads_int_inv r2
    obtain ⟨t3, rfl, _⟩ := reads_int_inv r3
    obtain ⟨rfl, _⟩ := reads_bool_inv r4
    exact ⟨a, t1, t2, t3, e, hl⟩
theorem rd_row {h : Heap} {v : Value} {e : Row} (r : Rd h v (rP e)) : ∃ a t1 t2 t3 t4, v = .ref a ∧ IsTup h a #[.int e.1 t1, .int e.2.1 t2, .int e.2.2.1 t3, .int e.2.2.2 t4] := by
  obtain ⟨as, r⟩ := r
  obtain ⟨a, l, e, hl, ra⟩ := reads_tuple_items r
  cases ra with | cons r1 ra => cases ra with | cons r2 ra => cases ra with | cons r3 ra => cases ra with | cons r4 ra =>
    cases ra
    obtain ⟨t1, rfl, _⟩ := reads_int_inv r1
    obtain ⟨t2, rfl, _⟩ := reads_int_inv r2
    obtain ⟨t3, rfl, _⟩ := reads_int_inv r3
    obtain ⟨t4, rfl, _⟩ := reads_int_inv r4
    exact ⟨a, t1, t2, t3, t4, e, hl⟩

theorem isList_in {g : Heap} {a : Addr} {items : Array Value} (x : g.IsList a items) : ∀ h : Heap, (∀ b o, g.get? b = some o → h.get? b = some o) → (∀ p ∈ ([] : List (Addr × Obj)), h.get? p.1 = some p.2) → h.IsList a items := fun _ k _ => let ⟨o, e, r⟩ := x; ⟨o, k _ _ e, r⟩
end

section
def MapIs (ps : List (Str × Value)) (stored : List Str) (m₀ m : Str → Option Value) : Prop := (∀ p ∈ ps, m p.1 = some p.2) ∧ ∀ z, (∀ p ∈ ps, z ≠ p.1) → stored.contains z = false → m z = m₀ z
theorem MapIs.form {ps : List (Str × Value)} {stored : List Str} {m₀ m : Str → Option Value} (h : MapIs ps stored m₀ m) : m = kstB (fun z => if stored.contains z then m z else m₀ z) ps := by
  funext z
  refine (kstB_eq h.1 fun hn => ?_).symm
  show (if stored.contains z = true then m z else m₀ z) = m z
  cases h3 : stored.contains z with
  | true => simp
  | false => simp only [Bool.false_eq_true, if_false]; exact (h.2 z hn h3).symm

/-- what holds between the turns: G says the turned names' values and the ledger -/
def StJ (G : Nat → List (Str × Value) → List (Addr × Obj) → Prop) (stored : List Str) (m₀ : Str → Option Value) (i : Nat) (m : Str → Option Value) (nx : List (Addr × Obj)) : Prop := ∃ ps, G i ps nx ∧ MapIs ps stored m₀ m

section
variable {prog : Program} {w : World} {A : Around} {E : Value → Shared → Prop} {s : Shared} {env : Env} {h₀ : Heap} {target : Expr} {body : List Stmt} {Q : Flow → Shared → Prop}

theorem for_st {l : Addr} {vs : List Value} {m₀ : Str → Option Value} {news : List (Addr × Obj)} (nx₀ lst : List (Addr × Obj)) (G : Nat → List (Str × Value) → List (Addr × Obj) → Prop) (ps₀ : List (Str × Value)) (stored : List Str)
    (hh : A.handled = none) (F : Fr h₀ env.locals s.heap m₀) (N : News h₀ env.locals s.heap news) (hsub : ∀ p ∈ nx₀ ++ lst, p ∈ news) (hoff : OwnOff lst (nx₀.map (·.1)))
    (hl : ∀ h : Heap, (∀ b o, h₀.get? b = some o → h.get? b = some o) → (∀ p ∈ lst, h.get? p.1 = some p.2) → h.IsList l vs.toArray) (hg : G 0 ps₀ nx₀) (hps : ∀ p ∈ ps₀, m₀ p.1 = some p.2)
    (turn : ∀ i v ps (u : Str → Option Value) nx h tk own, vs[i]? = some v → OwnOff own (nx.map (·.1)) → (∀ p ∈ lst, p ∈ own) → G i ps nx → Fr h₀ env.locals h (kstB (fun z => if stored.contains z then u z else m₀ z) ps) → News h₀ env.locals h (nx ++ own) →
      wpAny (model prog w) A (assign target env v) (fun _ s₂ => wpAny (model prog w) A (execs body env) (InvPostG h₀ env.locals (StJ G stored m₀ (i + 1)) own { s with heap := h, toks := tk } Q) E s₂) E { s with heap := h, toks := tk })
    (done : ∀ ps (u : Str → Option Value) nx h tk, G vs.length ps nx → OwnOff lst (nx.map (·.1)) → Fr h₀ env.locals h (kstB (fun z => if stored.contains z then u z else m₀ z) ps) → News h₀ env.locals h (nx ++ lst) → Q .next { s with heap := h, toks := tk })
    (hE : PassesOwn (model prog w) A env E := by passes_own) :
    ForAt prog w A env target body Q E (.ref l) s := by
  refine for_list (StJ G stored m₀) hh F (fun p hp => N p (hsub p hp)) hoff hl ⟨ps₀, hg, hps, fun _ _ _ => rfl⟩ ?_ ?_ hE
  · rintro i v m₁ nx h tk own hv ho hlo ⟨ps, hG, hm⟩ F₁ N₁
    exact turn i v ps m₁ nx h tk own hv ho hlo hG (hm.form ▸ F₁) N₁
  · rintro m₁ nx h tk ⟨ps, hG, hm⟩ ho F₁ N₁
    exact done ps m₁ nx h tk hG ho (hm.form ▸ F₁) N₁

theorem for_stR {r : Addr} {a b : Int} {t u v : Tok} {n : Nat} {x : Str} {px : Pos} {m₀ : Str → Option Value} {news : List (Addr × Obj)} (nx₀ : List (Addr × Obj)) (G : Nat → List (Str × Value) → List (Addr × Obj) → Prop) (ps₀ : List (Str × Value)) (stored : List Str)
    (hh : A.handled = none) (F : Fr h₀ env.locals s.heap m₀) (N : News h₀ env.locals s.heap news) (hsub : ∀ p ∈ nx₀, p ∈ news)
    (hr : IsRange s.heap r a b 1 t u v) (hsmall : Builtin.Range.small a b 1 = true) (hsz : Builtin.Range.rangeSize a b 1 = (n : Int)) (hg : G 0 ps₀ nx₀) (hps : ∀ p ∈ ps₀, m₀ p.1 = some p.2)
    (turn : ∀ i t ps (u : Str → Option Value) nx h tk own, i < n → OwnOff own (nx.map (·.1)) → G i ps nx → Fr h₀ env.locals h (kstB (fun z => if stored.contains z then u z else m₀ z) ps) → News h₀ env.locals h (nx ++ own) →
      wpAny (model prog w) A (assign (.Name x px) env (.int (a + (i : Int)) t)) (fun _ s₂ => wpAny (model prog w) A (execs body env) (InvPostG h₀ env.locals (StJ G stored m₀ (i + 1)) own { s with heap := h, toks := tk } Q) E s₂) E { s with heap := h, toks := tk })
    (done : ∀ ps (u : Str → Option Value) nx h tk, G n ps nx → Fr h₀ env.locals h (kstB (fun z => if stored.contains z then u z else m₀ z) ps) → News h₀ env.locals h nx → Q .next { s with heap := h, toks := tk })
    (hE : PassesOwn (model prog w) A env E := by passes_own) :
    ForAt prog w A env (.Name x px) body Q E (.ref r) s := by
  refine for_range (StJ G stored m₀) hh F (fun p hp => N p (hsub p hp)) hr hsmall hsz ⟨ps₀, hg, hps, fun _ _ _ => rfl⟩ ?_ ?_ hE
  · rintro i t m₁ nx h tk own hv ho ⟨ps, hG, hm⟩ F₁ N₁
    exact turn i t ps m₁ nx h tk own hv ho hG (hm.form ▸ F₁) N₁
  · rintro m₁ nx h tk ⟨ps, hG, hm⟩ F₁ N₁
    exact done ps m₁ nx h tk hG (hm.form ▸ F₁) N₁
end
/-- a turn's end -/
theorem StJ.end {h₀ : Heap} {L : Addr} {G : Nat → List (Str × Value) → List (Addr × Obj) → Prop} {stored : List Str} {m₀ m' : Str → Option Value} {i : Nat} {own news' : List (Addr × Obj)} {s₁ : Shared} {h' : Heap} {tk : Nat} (ps : List (Str × Value)) (nx : List (Addr × Obj))
    (F : Fr h₀ L h' m') (N : News h₀ L h' news') (hn : ∀ p ∈ nx, p ∈ news') (ho : ∀ p ∈ own, p ∈ news') (hof : OwnOff own (nx.map (·.1))) (hG : G i ps nx) (h1 : ∀ p ∈ ps, m' p.1 = some p.2) (h2 : ∀ z, (∀ p ∈ ps, z ≠ p.1) → stored.contains z = false → m' z = m₀ z) :
    InvEndG h₀ L (StJ G stored m₀ i) own s₁ { s₁ with heap := h', toks := tk } := ⟨h', tk, m', news', nx, rfl, F, N, hn, ho, hof, ps, hG, h1, h2⟩
end

section
/-- between the turns of a loop that fills the list D -/
def BG {σ : Type} (D : Addr) (st : Nat → σ) (ds : σ → List PyData) (ps : σ → List (Str × Value)) (i : Nat) (p : List (Str × Value)) (nx : List (Addr × Obj)) : Prop :=
  ∃ vs' n tl, p = ps (st i) ∧ nx = (D, listOf vs' n) :: tl ∧ RfAll tl vs'.toList (ds (st i)) ∧ ∀ p ∈ tl, p.1 ≠ D

section
variable {prog : Program} {w : World} {A : Around} {E : Value → Shared → Prop} {s : Shared} {env : Env} {h₀ : Heap} {target : Expr} {body : List Stmt} {Q : Flow → Shared → Prop}

theorem for_build {σ : Type} {l : Addr} {vs : List Value} {m₀ : Str → Option Value} {news : List (Addr × Obj)} {D : Addr} (lst : List (Addr × Obj)) (st : Nat → σ) (ds : σ → List PyData) (ps : σ → List (Str × Value)) (found : Str) (stored : List Str)
    (hh : A.handled = none) (F : Fr h₀ env.locals s.heap m₀) (N : News h₀ env.locals s.heap news) (_hf : m₀ found = some (.ref D)) (hsub : ∀ p ∈ (D, listOf #[] 0) :: lst, p ∈ news) (hoff : ∀ p ∈ lst, p.1 ≠ D)
    (hl : ∀ h : Heap, (∀ b o, h₀.get? b = some o → h.get? b = some o) → (∀ p ∈ lst, h.get? p.1 = some p.2) → h.IsList l vs.toArray) (hds : ds (st 0) = []) (hps : ∀ p ∈ ps (st 0), m₀ p.1 = some p.2)
    (turn : ∀ i v (u : Str → Option Value) vs' n tl rest h tk own, vs[i]? = some v → RfAll tl vs'.toList (ds (st i)) → (∀ p ∈ tl, p ∈ rest) → (∀ p ∈ own, p ∈ rest) → (∀ p ∈ lst, p ∈ own) → (∀ p ∈ rest, p.1 ≠ D) → OwnOff own (tl.map (·.1)) →
      Fr h₀ env.locals h (kstB (fun z => if stored.contains z then u z else m₀ z) (ps (st i))) → News h₀ env.locals h ((D, listOf vs' n) :: rest) →
      wpAny (model prog w) A (assign target env v) (fun _ s₂ => wpAny (model prog w) A (execs body env) (InvPostG h₀ env.locals (StJ (BG D st ds ps) stored m₀ (i + 1)) own { s with heap := h, toks := tk } Q) E s₂) E { s with heap := h, toks := tk })
    (done : ∀ (u : Str → Option Value) vs' n tl h tk, RfAll tl vs'.toList (ds (st vs.length)) → (∀ p ∈ tl ++ lst, p.1 ≠ D) → Fr h₀ env.locals h (kstB (fun z => if stored.contains z then u z else m₀ z) (ps (st vs.length))) → News h₀ env.locals h ((D, listOf vs' n) :: (tl ++ lst)) → Q .next { s with heap := h, toks := tk })
    (hE : PassesOwn (model prog w) A env E := by passes_own) :
    ForAt prog w A env target body Q E (.ref l) s := by
  refine for_st [(D, listOf #[] 0)] lst (BG D st ds ps) (ps (st 0)) stored hh F N hsub ?_ hl ⟨#[], 0, [], rfl, rfl, by rw [hds]; exact .nil, by intro p hp; cases hp⟩ hps ?_ ?_ hE
  · intro p hp b hb
    simp only [List.map_cons, List.map_nil, List.mem_singleton] at hb
    rw [hb]; exact hoff p hp
  · rintro i v p u nx h tk own hv ho hlo ⟨vs', n, tl, rfl, rfl, hR, hne⟩ F₁ N₁
    refine turn i v u vs' n tl (tl ++ own) h tk own hv hR (fun p hp => List.mem_append.mpr (.inl hp)) (fun p hp => List.mem_append.mpr (.inr hp)) hlo (fun p hp => ?_) (fun p hp b hb => ho p hp b (List.mem_cons_of_mem _ hb)) F₁ N₁
    rcases List.mem_append.mp hp with hp | hp
    · exact hne p hp
    · exact ho p hp D (.head _)
  · rintro p u nx h tk ⟨vs', n, tl, rfl, rfl, hR, hne⟩ ho F₁ N₁
    refine done u vs' n tl h tk hR (fun p hp => ?_) F₁ N₁
    rcases List.mem_append.mp hp with hp | hp
    · exact hne p hp
    · exact ho p hp D (.head _)
end
theorem build_end {σ : Type} {h₀ : Heap} {L D : Addr} {st : Nat → σ} {ds : σ → List PyData} {ps : σ → List (Str × Value)} {stored : List Str} {m₀ m' : Str → Option Value} {i : Nat} {vs' : Array Value} {tl own rest news' : List (Addr × Obj)} {n' : Nat} {s₁ : Shared} {h' : Heap} {tk : Nat} {x : Value} {d : PyData}
    (hR : RfAll tl vs'.toList (ds (st i))) (htl : ∀ p ∈ tl, p ∈ rest) (ho : ∀ p ∈ own, p ∈ rest) (hrD : ∀ p ∈ rest, p.1 ≠ D) (hoff : OwnOff own (tl.map (·.1)))
    (F : Fr h₀ L h' m') (N : News h₀ L h' news') (hD : (D, listOf (vs'.push x) n') ∈ news') (hr : ∀ p ∈ rest, p ∈ news') (add : List (Addr × Obj)) (hadd : ∀ p ∈ add, p ∈ news') (hx : Rf (add ++ tl) x d) (hds : ds (st (i + 1)) = ds (st i) ++ [d])
    (haD : ∀ p ∈ add, p.1 ≠ D) (har : ∀ p ∈ add, ∀ q ∈ rest, q.1 ≠ p.1) (h1 : ∀ p ∈ ps (st (i + 1)), m' p.1 = some p.2) (h2 : ∀ z, (∀ p ∈ ps (st (i + 1)), z ≠ p.1) → stored.contains z = false → m' z = m₀ z) :
    InvEndG h₀ L (StJ (BG D st ds ps) stored m₀ (i + 1)) own s₁ { s₁ with heap := h', toks := tk } := by
  refine StJ.end (ps (st (i + 1))) ((D, listOf (vs'.push x) n') :: (add ++ tl)) F N (fun p hp => ?_) (fun p hp => hr p (ho p hp)) (fun p hp b hb => ?_) ⟨vs'.push x, n', add ++ tl, rfl, rfl, ?_, fun p hp => ?_⟩ h1 h2
  · rcases List.mem_cons.mp hp with rfl | hp
    · exact hD
    · exact (List.mem_append.mp hp).elim (hadd p) fun q => hr p (htl p q)
  · obtain ⟨q, hq, rfl⟩ := List.mem_map.mp hb
    rcases List.mem_cons.mp hq with rfl | hq
    · exact hrD p (ho p hp)
    · rcases List.mem_append.mp hq with hq | hq
      · exact har q hq p (ho p hp)
      · exact hoff p hp _ (List.mem_map.mpr ⟨q, hq, rfl⟩)
  · rw [hds, Array.toList_push]
    exact (hR.mono fun p hp => List.mem_append.mpr (.inr hp)).append (.cons hx .nil)
  · exact (List.mem_append.mp hp).elim (haD p) fun q => hrD p (htl p q)
/-- the turn has put a new object T onto the list -/
theorem build_end1 {σ : Type} {h₀ : Heap} {L D T : Addr} {o : Obj} {st : Nat → σ} {ds : σ → List PyData} {ps : σ → List (Str × Value)} {stored : List Str} {m₀ m' : Str → Option Value} {i : Nat} {vs' : Array Value} {tl own rest : List (Addr × Obj)} {n' : Nat} {s₁ : Shared} {h' : Heap} {tk : Nat} {d : PyData}
    (hR : RfAll tl vs'.toList (ds (st i))) (htl : ∀ p ∈ tl, p ∈ rest) (ho : ∀ p ∈ own, p ∈ rest) (hrD : ∀ p ∈ rest, p.1 ≠ D) (hoff : OwnOff own (tl.map (·.1)))
    (F : Fr h₀ L h' m') (N : News h₀ L h' ((T, o) :: (D, listOf (vs'.push (.ref T)) n') :: rest)) (hlt : @LT.lt Nat _ D T ∧ AllLt T rest) (hx : Rf ((T, o) :: tl) (.ref T) d) (hds : ds (st (i + 1)) = ds (st i) ++ [d])
    (h1 : ∀ p ∈ ps (st (i + 1)), m' p.1 = some p.2) (h2 : ∀ z, (∀ p ∈ ps (st (i + 1)), z ≠ p.1) → stored.contains z = false → m' z = m₀ z) :
    InvEndG h₀ L (StJ (BG D st ds ps) stored m₀ (i + 1)) own s₁ { s₁ with heap := h', toks := tk } := by
  refine build_end hR htl ho hrD hoff F N (.tail _ (.head _)) (fun p hp => .tail _ (.tail _ hp)) [(T, o)] (fun p hp => by rw [List.mem_singleton.mp hp]; exact .head _) hx hds (fun p hp => ?_) (fun p hp q hq => ?_) h1 h2
  · rw [List.mem_singleton.mp hp]; exact Nat.ne_of_gt hlt.1
  · rw [List.mem_singleton.mp hp]; exact Nat.ne_of_lt (ktn_ltOf hlt.2 q hq)
/-- the turn has put a value that is no new object onto the list -/
theorem build_end0 {σ : Type} {h₀ : Heap} {L D : Addr} {st : Nat → σ} {ds : σ → List PyData} {ps : σ → List (Str × Value)} {stored : List Str} {m₀ m' : Str → Option Value} {i : Nat} {vs' : Array Value} {tl own rest news' : List (Addr × Obj)} {n' : Nat} {s₁ : Shared} {h' : Heap} {tk : Nat} {x : Value} {d : PyData}
    (hR : RfAll tl vs'.toList (ds (st i))) (htl : ∀ p ∈ tl, p ∈ rest) (ho : ∀ p ∈ own, p ∈ rest) (hrD : ∀ p ∈ rest, p.1 ≠ D) (hoff : OwnOff own (tl.map (·.1)))
    (F : Fr h₀ L h' m') (N : News h₀ L h' news') (hD : (D, listOf (vs'.push x) n') ∈ news') (hr : ∀ p ∈ rest, p ∈ news') (hx : Rf tl x d) (hds : ds (st (i + 1)) = ds (st i) ++ [d])
    (h1 : ∀ p ∈ ps (st (i + 1)), m' p.1 = some p.2) (h2 : ∀ z, (∀ p ∈ ps (st (i + 1)), z ≠ p.1) → stored.contains z = false → m' z = m₀ z) :
    InvEndG h₀ L (StJ (BG D st ds ps) stored m₀ (i + 1)) own s₁ { s₁ with heap := h', toks := tk } :=
  build_end hR htl ho hrD hoff F N hD hr [] (fun p hp => nomatch hp) hx hds (fun p hp => nomatch hp) (fun p hp => nomatch hp) h1 h2
theorem take_succ_fold {α β : Type} (f : β → α → β) (b : β) (l : List α) (i : Nat) (a : α) (h : l[i]? = some a) : (l.take (i + 1)).foldl f b = f ((l.take i).foldl f b) a := by
  rw [List.take_add_one, h]; simp
theorem RetB.fin {g : Heap} {L' : Addr} {s₀ : Shared} {Post : List (Addr × Obj) → Value → Prop} {v : Value} {h' : Heap} {tk : Nat} {m' : Str → Option Value} {news : List (Addr × Obj)} (F : Fr g L' h' m') (N : News g L' h' news) (tl : List (Addr × Obj)) (hs : ∀ p ∈ tl, p ∈ news) (hp : Post tl v) :
    RetB g L' s₀ Post v { s₀ with heap := h', toks := tk } := ⟨tl, h', tk, m', rfl, F, fun p q => N p (hs p q), hp⟩
end

section
theorem cut_test {M : Model} {A : Around} {E : Value → Shared → Prop} {s : Shared} {t : Sem Bool} {Q : Bool → Shared → Prop} (C : Prop) [Decidable C]
    (h1 : wpAny M A t (fun b s' => b = decide C ∧ ∃ tk, s' = { s with toks := tk }) (fun _ _ => False) s) (h2 : ∀ tk, C → Q true { s with toks := tk }) (h3 : ∀ tk, ¬ C → Q false { s with toks := tk }) : wpAny M A t Q E s := by
  refine wpAny_mono h1 ?_ fun _ _ h => False.elim h
  rintro b s' ⟨rfl, tk, rfl⟩
  by_cases hC : C
  · rw [decide_eq_true hC]; exact h2 tk hC
  · rw [decide_eq_false hC]; exact h3 tk hC
theorem allLt_mem {d : Addr} {l : List (Addr × Obj)} (h : AllLt d l) : ∀ p ∈ l, p.1 < d := ktn_ltOf h
theorem cut_int {M : Model} {A : Around} {E : Value → Shared → Prop} {s : Shared} {t : Sem Value} {Q : Value → Shared → Prop} (n : Int)
    (h1 : wpAny M A t (fun v s' => (∃ tk, v = .int n tk) ∧ ∃ tk, s' = { s with toks := tk }) (fun _ _ => False) s) (h2 : ∀ u tk, Q (.int n u) { s with toks := tk }) : wpAny M A t Q E s := by
  refine wpAny_mono h1 ?_ fun _ _ h => False.elim h
  rintro v s' ⟨⟨u, rfl⟩, tk, rfl⟩
  exact h2 u tk
/-- a made list, with its own entry -/
def RL (tl : List (Addr × Obj)) (v : Value) (ds : List PyData) : Prop := ∃ a vs n, v = .ref a ∧ (a, ({ cls := .type "list", data := .seq vs n } : Obj)) ∈ tl ∧ RfAll tl vs.toList ds
theorem RL.mk {tl : List (Addr × Obj)} {a : Addr} {vs : Array Value} {n : Nat} {ds : List PyData} (hm : (a, ({ cls := .type "list", data := .seq vs n } : Obj)) ∈ tl) (r : RfAll tl vs.toList ds) : RL tl (.ref a) ds := ⟨a, vs, n, rfl, hm, r⟩
theorem RL.rf {tl : List (Addr × Obj)} {v : Value} {ds : List PyData} (r : RL tl v ds) : Rf tl v (.list ds) := by
  obtain ⟨a, vs, n, rfl, hm, h⟩ := r
  exact Rf.list hm h
theorem RL.mono {tl tl' : List (Addr × Obj)} {v : Value} {ds : List PyData} (r : RL tl v ds) (hk : ∀ p ∈ tl, p ∈ tl') : RL tl' v ds := by
  obtain ⟨a, vs, n, rfl, hm, h⟩ := r
  exact RL.mk (hk _ hm) (h.mono hk)
theorem rfAll_get {tl : List (Addr × Obj)} : ∀ {vs : List Value} {ds : List PyData}, RfAll tl vs ds → ∀ (i : Nat) (v : Value), vs[i]? = some v → ∃ d, ds[i]? = some d ∧ Rf tl v d
  | _, _, .nil, i, v, e => by simp at e
  | _, _, .cons r rs, 0, v, e => by simp at e; subst e; exact ⟨_, rfl, r⟩
  | _, _, .cons r rs, i + 1, v, e => rfAll_get rs i v (by simpa using e)
def lP (l : List Int) : PyData := .list (l.map .int)
def llP (ls : List (List Int)) : PyData := .list (ls.map lP)
inductive RLs (tl : List (Addr × Obj)) : List Value → List (List Int) → Prop
  | nil : RLs tl [] []
  | cons {v : Value} {vs : List Value} {l : List Int} {ls : List (List Int)} : RL tl v (l.map .int) → RLs tl vs ls → RLs tl (v :: vs) (l :: ls)
theorem RLs.mono {tl tl' : List (Addr × Obj)} (hk : ∀ p ∈ tl, p ∈ tl') : ∀ {vs : List Value} {ls : List (List Int)}, RLs tl vs ls → RLs tl' vs ls
  | _, _, .nil => .nil
  | _, _, .cons h r => .cons (h.mono hk) (RLs.mono hk r)
theorem RLs.append {tl : List (Addr × Obj)} : ∀ {vs ws : List Value} {ls ms : List (List Int)}, RLs tl vs ls → RLs tl ws ms → RLs tl (vs ++ ws) (ls ++ ms)
  | _, _, _, _, .nil, k => k
  | _, _, _, _, .cons h r, k => .cons h (RLs.append r k)
theorem RLs.length {tl : List (Addr × Obj)} : ∀ {vs : List Value} {ls : List (List Int)}, RLs tl vs ls → vs.length = ls.length
  | _, _, .nil => rfl
  | _, _, .cons _ r => by simp [RLs.length r]
theorem RLs.rf {tl : List (Addr × Obj)} : ∀ {vs : List Value} {ls : List (List Int)}, RLs tl vs ls → RfAll tl vs (ls.map lP)
  | _, _, .nil => .nil
  | _, _, .cons h r => .cons h.rf (RLs.rf r)
theorem RLs.get {tl : List (Addr × Obj)} : ∀ {vs : List Value} {ls : List (List Int)}, RLs tl vs ls → ∀ (i : Nat) (v : Value), vs[i]? = some v → ∃ l, ls[i]? = some l ∧ RL tl v (l.map .int)
  | _, _, .nil, i, v, e => by simp at e
  | _, _, .cons r rs, 0, v, e => by simp at e; subst e; exact ⟨_, rfl, r⟩
  | _, _, .cons r rs, i + 1, v, e => RLs.get rs i v (by simpa using e)
def RLL (tl : List (Addr × Obj)) (v : Value) (ls : List (List Int)) : Prop := ∃ a vs n, v = .ref a ∧ (a, ({ cls := .type "list", data := .seq (List.toArray vs) n } : Obj)) ∈ tl ∧ RLs tl vs ls
theorem RLL.mk {tl : List (Addr × Obj)} {a : Addr} {vs : Array Value} {n : Nat} {ls : List (List Int)} (hm : (a, ({ cls := .type "list", data := .seq vs n } : Obj)) ∈ tl) (r : RLs tl vs.toList ls) : RLL tl (.ref a) ls := ⟨a, vs.toList, n, rfl, by rw [Array.toArray_toList]; exact hm, r⟩
theorem RLL.rl {tl : List (Addr × Obj)} {v : Value} {ls : List (List Int)} (r : RLL tl v ls) : RL tl v (ls.map lP) := by
  obtain ⟨a, vs, n, rfl, hm, h⟩ := r
  exact RL.mk hm h.rf
theorem RLL.rf {tl : List (Addr × Obj)} {v : Value} {ls : List (List Int)} (r : RLL tl v ls) : Rf tl v (llP ls) := r.rl.rf
theorem RLL.mono {tl tl' : List (Addr × Obj)} {v : Value} {ls : List (List Int)} (r : RLL tl v ls) (hk : ∀ p ∈ tl, p ∈ tl') : RLL tl' v ls := by
  obtain ⟨a, vs, n, rfl, hm, h⟩ := r
  exact ⟨a, vs, n, rfl, hk _ hm, h.mono hk⟩
theorem rl_list {tl : List (Addr × Obj)} {v : Value} {ds : List PyData} (r : RL tl v ds) : ∃ a vs n, v = .ref a ∧ (a, listOf (List.toArray vs) n) ∈ tl ∧ RfAll tl vs ds := by
  obtain ⟨a, vs, n, e, hm, h⟩ := r
  exact ⟨a, vs.toList, n, e, by rw [Array.toArray_toList]; exact hm, h⟩
/-- extend by a list that stands somewhere in the ledger -/
theorem extend_my {prog : Program} {w : World} {A : Around} {E : Value → Shared → Prop} {s : Shared} {h₀ : Heap} {L : Addr} {m : Str → Option Value} {D b : Addr} {ys : List Value} {n n2 : Nat} {its2 : List Value} {rest : List (Addr × Obj)} {Q : Value → Shared → Prop}
    (F : Fr h₀ L s.heap m) (N : News h₀ L s.heap ((D, listOf ys.toArray n) :: rest)) (hap : ∀ p ∈ rest, p.1 ≠ D) (hb : (b, listOf its2.toArray n2) ∈ rest) (hsz : ys.length + its2.length ≤ sizeLine)
    (h : ∀ h' n', Fr h₀ L h' m → News h₀ L h' ((D, listOf (ys ++ its2).toArray n') :: rest) → Q .none { s with heap := h' }) :
    wpAny (model prog w) A (call (.builtin "list.extend") [.ref D, .ref b]) Q E s :=
  extend_in (own := []) (hsz := by simpa using hsz) F N (fun p hp => nomatch hp) hap (N _ (.tail _ hb)).1 fun h' n' F' N' => h h' n' F' (by simpa using N')
theorem tup_at {prog : Program} {w : World} {A : Around} {E : Value → Shared → Prop} {s : Shared} {value slice : PySem.Expr} {t : Addr} {items : Array Value} {k : Int} {u : Tok} {j : Nat} {x : Value} {Q : Value → Shared → Prop} (ht : IsTup s.heap t items)
    (hj : seqIndex? k items.size = some j) (hx : items[j]? = some x) (hlo : -(2 ^ 63) ≤ k) (hhi : k < 2 ^ 63) (h : Q x s)
    (hs : subscripted slice false (.ref t) (.int k u) = operate [.ref t, .int k u] (getItem (.ref t) (.int k u))) :
    wpAny (model prog w) A (subscriptTail value slice (.ref t) (.int k u)) Q E s :=
  tail_any ht.typeIs slot_tuple_getitem.lookup (getItem_tuple ht hlo hhi hj hx h) hs
theorem tup4_0 {prog : Program} {w : World} {A : Around} {E : Value → Shared → Prop} {s : Shared} {value slice : PySem.Expr} {t : Addr} {u : Tok} {a b c d : Value} {Q : Value → Shared → Prop} (ht : IsTup s.heap t #[a, b, c, d]) (h : Q a s)
    (hs : subscripted slice false (.ref t) (.int 0 u) = operate [.ref t, .int 0 u] (getItem (.ref t) (.int 0 u))) : wpAny (model prog w) A (subscriptTail value slice (.ref t) (.int 0 u)) Q E s := tup_at (j := 0) ht rfl rfl (by decide) (by decide) h hs
theorem tup4_1 {prog : Program} {w : World} {A : Around} {E : Value → Shared → Prop} {s : Shared} {value slice : PySem.Expr} {t : Addr} {u : Tok} {a b c d : Value} {Q : Value → Shared → Prop} (ht : IsTup s.heap t #[a, b, c, d]) (h : Q b s)
    (hs : subscripted slice false (.ref t) (.int 1 u) = operate [.ref t, .int 1 u] (getItem (.ref t) (.int 1 u))) : wpAny (model prog w) A (subscriptTail value slice (.ref t) (.int 1 u)) Q E s := tup_at (j := 1) ht rfl rfl (by decide) (by decide) h hs
theorem tup4_2 {prog : Program} {w : World} {A : Around} {E : Value → Shared → Prop} {s : Shared} {value slice : PySem.Expr} {t : Addr} {u : Tok} {a b c d : Value} {Q : Value → Shared → Prop} (ht : IsTup s.heap t #[a, b, c, d]) (h : Q c s)
    (hs : subscripted slice false (.ref t) (.int 2 u) = operate [.ref t, .int 2 u] (getItem (.ref t) (.int 2 u))) : wpAny (model prog w) A (subscriptTail value slice (.ref t) (.int 2 u)) Q E s := tup_at (j := 2) ht rfl rfl (by decide) (by decide) h hs
theorem tup4_3 {prog : Program} {w : World} {A : Around} {E : Value → Shared → Prop} {s : Shared} {value slice : PySem.Expr} {t : Addr} {u : Tok} {a b c d : Value} {Q : Value → Shared → Prop} (ht : IsTup s.heap t #[a, b, c, d]) (h : Q d s)
    (hs : subscripted slice false (.ref t) (.int 3 u) = operate [.ref t, .int 3 u] (getItem (.ref t) (.int 3 u))) : wpAny (model prog w) A (subscriptTail value slice (.ref t) (.int 3 u)) Q E s := tup_at (j := 3) ht rfl rfl (by decide) (by decide) h hs
end

section
/-- a word that no line of the walk opens -/
def CS (P : Value → Shared → Prop) (xv : Value) (s : Shared) : Prop := P xv s

section
variable {prog : Program} {w : World} {A : Around} {E : Value → Shared → Prop} {s : Shared} {h₀ : Heap} {L : Addr} {m : Str → Option Value} {env : Env}

theorem cs_U {elt iter : Expr} {x : Str} {px : Pos} {scope : Scope} {cl : List (Str × Addr)} {pos : Pos} {Q : Value → Shared → Prop} (F₀ : Fr h₀ L s.heap m)
    (hclos : closureFor scope env = pure cl) (hcell : ∀ y ∈ scope.names, y.2 ≠ .cell) (hkind : scope.kind = .function)
    (hnames : ∀ y ∈ scope.names, y.2 = .local → scope.names.lookup y.1 = some .local) (hx : scope.names.lookup x = some .local)
    (h : wpAny (model prog w) A (eval iter env) (CS (LCg.CompSrc prog w A h₀ L m env elt x scope cl (fun s₂ => LCg.FinE h₀ L m s₂ Q))) E s)
    (hs : ∀ x, foldedSetIterable iter env x = pure x := by intro _; rfl) :
    wpAny (model prog w) A (eval (.ListComp elt [⟨.Name x px, iter, [], 0⟩] scope pos) env) Q E s := LCg.ListComp_U F₀ hclos hcell hkind hnames hx h hs
theorem cs_T {ct elt iter : Expr} {x : Str} {px : Pos} {scope : Scope} {cl : List (Str × Addr)} {pos : Pos} {Q : Value → Shared → Prop} (F₀ : Fr h₀ L s.heap m)
    (hclos : closureFor scope env = pure cl) (hcell : ∀ y ∈ scope.names, y.2 ≠ .cell) (hkind : scope.kind = .function)
    (hnames : ∀ y ∈ scope.names, y.2 = .local → scope.names.lookup y.1 = some .local) (hx : scope.names.lookup x = some .local)
    (h : wpAny (model prog w) A (eval iter env) (CS (LCt.CompSrcT prog w A h₀ L m env ct elt x scope cl (fun s₂ => LCg.FinE h₀ L m s₂ Q))) E s)
    (hs : ∀ x, foldedSetIterable iter env x = pure x := by intro _; rfl) :
    wpAny (model prog w) A (eval (.ListComp elt [⟨.Name x px, iter, [ct], 0⟩] scope pos) env) Q E s := LCt.ListComp_T F₀ hclos hcell hkind hnames hx h hs
theorem cs_AU {elt iter : Expr} {x y : Str} {px py : Pos} {scope : Scope} {cl : List (Str × Addr)} {pos spos : Pos} {Q : Flow → Shared → Prop} (F₀ : Fr h₀ L s.heap m) (hLe : env.locals = L)
    (hsw : swapsWith (.ListComp elt [⟨.Name x px, iter, [], 0⟩] scope pos) (some (.Name y py)) spos.line env = pure true)
    (hclos : closureFor scope env = pure cl) (hcell : ∀ z ∈ scope.names, z.2 ≠ .cell) (hkind : scope.kind = .function)
    (hnames : ∀ z ∈ scope.names, z.2 = .local → scope.names.lookup z.1 = some .local) (hx : scope.names.lookup x = some .local)
    (hy : env.kindOf y = some .local) (hp : (env.scope.kind == .class || (env.scope.kind == .module && env.locals != env.globals)) = false)
    (h : wpAny (model prog w) A (eval iter env) (CS (LCg.CompSrc prog w A h₀ L m env elt x scope cl (fun s₂ => LCg.FinA h₀ L m s₂ y Q))) E s)
    (hs : ∀ x, foldedSetIterable iter env x = pure x := by intro _; rfl) :
    wpAny (model prog w) A (exec (.Assign [.Name y py] (.ListComp elt [⟨.Name x px, iter, [], 0⟩] scope pos) spos) env) Q E s := LCg.Assign_ListComp_U F₀ hLe hsw hclos hcell hkind hnames hx hy hp h hs
theorem cs_AT {ct elt iter : Expr} {x y : Str} {px py : Pos} {scope : Scope} {cl : List (Str × Addr)} {pos spos : Pos} {Q : Flow → Shared → Prop} (F₀ : Fr h₀ L s.heap m) (hLe : env.locals = L)
    (hsw : swapsWith (.ListComp elt [⟨.Name x px, iter, [ct], 0⟩] scope pos) (some (.Name y py)) spos.line env = pure true)
    (hclos : closureFor scope env = pure cl) (hcell : ∀ z ∈ scope.names, z.2 ≠ .cell) (hkind : scope.kind = .function)
    (hnames : ∀ z ∈ scope.names, z.2 = .local → scope.names.lookup z.1 = some .local) (hx : scope.names.lookup x = some .local)
    (hy : env.kindOf y = some .local) (hp : (env.scope.kind == .class || (env.scope.kind == .module && env.locals != env.globals)) = false)
    (h : wpAny (model prog w) A (eval iter env) (CS (LCt.CompSrcT prog w A h₀ L m env ct elt x scope cl (fun s₂ => LCg.FinA h₀ L m s₂ y Q))) E s)
    (hs : ∀ x, foldedSetIterable iter env x = pure x := by intro _; rfl) :
    wpAny (model prog w) A (exec (.Assign [.Name y py] (.ListComp elt [⟨.Name x px, iter, [ct], 0⟩] scope pos) spos) env) Q E s := LCt.Assign_ListComp_T F₀ hLe hsw hclos hcell hkind hnames hx hy hp h hs

theorem compEnd_mono {s₁ s₂ : Shared} {I C D : Addr} {oI oC oD : Obj} {S : List (Addr × Obj) → Prop} {r r' : Value → List (Addr × Obj) → Prop} {y : Value} (h : LCg.CompEnd h₀ L m s₁ I oI C oC D oD S r y s₂) (hr : ∀ nx, r y nx → r' y nx) :
    LCg.CompEnd h₀ L m s₁ I oI C oC D oD S r' y s₂ := by
  obtain ⟨h', tk, news', e, F, N, o, hS, q⟩ := h
  exact ⟨h', tk, news', e, F, N, o, hS, hr _ q⟩

theorem compRest_inv {elt : Expr} {x : Str} {scope : Scope} {cl : List (Str × Addr)} {S : List (Addr × Obj) → Prop} {P : Nat → Value → Prop} {Fin : List Value → List (Addr × Obj) → Prop} (Inv : Nat → List Value → List (Addr × Obj) → Prop) {n : Nat}
    (step : ∀ i v ys nx I oI C oC D m₂ h tk (E' : Value → Shared → Prop), i < n → P i v → Inv i ys nx → LCg.NsObj oC m₂ → m₂ x = some v → Fr h₀ L h m → News h₀ L h ((I, oI) :: (C, oC) :: (D, LCg.lst ys) :: nx) → LCg.Off3 I C D nx → ((@Ne Nat I C) ∧ (@Ne Nat I D) ∧ (@Ne Nat C D)) →
      wpAny (model prog w) A (eval elt (compEnvC scope cl C env)) (LCg.CompEnd h₀ L m { s with heap := h, toks := tk } I oI C oC D (LCg.lst ys) S (fun y nx' => Inv (i + 1) (ys ++ [y]) nx')) E' { s with heap := h, toks := tk })
    (fin : ∀ ys nx, Inv n ys nx → Fin ys nx) : ∀ (k i : Nat) (ys : List Value) (nx : List (Addr × Obj)), i + k = n → Inv i ys nx → LCg.CompRest prog w A h₀ L m env elt x scope cl s S P Fin k i ys nx := by
  intro k
  induction k with
  | zero => intro i ys nx e hI; exact fin ys nx (by rw [← e]; exact hI)
  | succ k ih =>
    intro i ys nx e hI
    intro v I oI C oC D m₂ h tk E' hP hC hx F N off ne
    exact wpAny_mono (step i v ys nx I oI C oC D m₂ h tk E' (by omega) hP hI hC hx F N off ne) (fun y s' q => compEnd_mono q fun nx' q' => ih (i + 1) (ys ++ [y]) nx' (by omega) q') fun _ _ q => q

theorem compRestT_inv {ct elt : Expr} {x : Str} {scope : Scope} {cl : List (Str × Addr)} {S : List (Addr × Obj) → Prop} {P : Nat → Value → Prop} {Fin : List Value → List (Addr × Obj) → Prop} (Inv : Nat → List Value → List (Addr × Obj) → Prop) {n : Nat}
    (step : ∀ i v ys nx I oI C oC D m₂ h tk (E' : Value → Shared → Prop), i < n → P i v → Inv i ys nx → LCg.NsObj oC m₂ → m₂ x = some v → Fr h₀ L h m → News h₀ L h ((I, oI) :: (C, oC) :: (D, LCg.lst ys) :: nx) → LCg.Off3 I C D nx → ((@Ne Nat I C) ∧ (@Ne Nat I D) ∧ (@Ne Nat C D)) →
      wpAny (model prog w) A (isTrue ct (compEnvC scope cl C env) (eval ct (compEnvC scope cl C env))) (fun ok s' => if ok = true then
        wpAny (model prog w) A (eval elt (compEnvC scope cl C env)) (LCg.CompEnd h₀ L m { s with heap := h, toks := tk } I oI C oC D (LCg.lst ys) S (fun y nx' => Inv (i + 1) (ys ++ [y]) nx')) E' s'
        else LCg.CompEnd h₀ L m { s with heap := h, toks := tk } I oI C oC D (LCg.lst ys) S (fun _ nx' => Inv (i + 1) ys nx') Value.none s') E' { s with heap := h, toks := tk })
    (fin : ∀ ys nx, Inv n ys nx → Fin ys nx) : ∀ (k i : Nat) (ys : List Value) (nx : List (Addr × Obj)), i + k = n → Inv i ys nx → LCt.CompRestT prog w A h₀ L m env ct elt x scope cl s S P Fin k i ys nx := by
  intro k
  induction k with
  | zero => intro i ys nx e hI; exact fin ys nx (by rw [← e]; exact hI)
  | succ k ih =>
    intro i ys nx e hI
    intro v I oI C oC D m₂ h tk E' hP hC hx F N off ne
    refine wpAny_mono (step i v ys nx I oI C oC D m₂ h tk E' (by omega) hP hI hC hx F N off ne) (fun ok s' q => ?_) fun _ _ q => q
    cases ok with
    | true =>
      simp only [if_true] at q ⊢
      exact wpAny_mono q (fun y s'' q' => compEnd_mono q' fun nx' q'' => ih (i + 1) (ys ++ [y]) nx' (by omega) q'') fun _ _ q => q
    | false =>
      simp only [Bool.false_eq_true, if_false] at q ⊢
      exact compEnd_mono q fun nx' q'' => ih (i + 1) ys nx' (by omega) q''

/-- a comprehension over a list, what it makes told by ds -/
theorem comp_list {elt : Expr} {x : Str} {scope : Scope} {cl : List (Str × Addr)} {Fin : Shared → List Value → List (Addr × Obj) → Prop} {ax : Addr} {vs : List Value} {news : List (Addr × Obj)} (ds : Nat → List PyData)
    (hh : A.handled = none) (F : Fr h₀ L s.heap m) (N : News h₀ L s.heap news) (S : LCg.SrcAt h₀ ax vs.toArray news) (hsz : vs.length ≤ sizeLine) (hds : ds 0 = [])
    (step : ∀ i v ys tl I oI C oC D m₂ h tk (E' : Value → Shared → Prop), vs[i]? = some v → RfAll tl ys (ds i) → LCg.NsObj oC m₂ → m₂ x = some v → Fr h₀ L h m → News h₀ L h ((I, oI) :: (C, oC) :: (D, LCg.lst ys) :: (tl ++ news)) → LCg.Off3 I C D (tl ++ news) → ((@Ne Nat I C) ∧ (@Ne Nat I D) ∧ (@Ne Nat C D)) →
      wpAny (model prog w) A (eval elt (compEnvC scope cl C env)) (LCg.CompEnd h₀ L m { s with heap := h, toks := tk } I oI C oC D (LCg.lst ys) (LCg.SrcAt h₀ ax vs.toArray) (fun y nx' => ∃ tl', nx' = tl' ++ news ∧ RfAll tl' (ys ++ [y]) (ds (i + 1)))) E' { s with heap := h, toks := tk })
    (fin : ∀ g tl ys, RfAll tl ys (ds vs.length) → Fin { s with heap := g } ys (tl ++ news)) :
    CS (LCg.CompSrc prog w A h₀ L m env elt x scope cl Fin) (.ref ax) s := by
  refine .inl ⟨ax, vs.toArray, news, rfl, hh, F, N, S, by simpa using hsz, ?_⟩
  rintro s₂ ⟨g, rfl⟩
  refine compRest_inv (fun i ys nx => ∃ tl, nx = tl ++ news ∧ RfAll tl ys (ds i)) ?_ ?_ _ 0 [] news (by rw [Nat.zero_add]) ⟨[], rfl, by rw [hds]; exact .nil⟩
  · rintro i v ys nx I oI C oC D m₂ h tk E' hi hP ⟨tl, rfl, hR⟩ hC hx F N off ne
    exact step i v ys tl I oI C oC D m₂ h tk E' (by simpa using hP) hR hC hx F N off ne
  · rintro ys nx ⟨tl, rfl, hR⟩
    exact fin g tl ys (by simpa using hR)

theorem comp_listT {ct elt : Expr} {x : Str} {scope : Scope} {cl : List (Str × Addr)} {Fin : Shared → List Value → List (Addr × Obj) → Prop} {ax : Addr} {vs : List Value} {news : List (Addr × Obj)} (ds : Nat → List PyData)
    (hh : A.handled = none) (F : Fr h₀ L s.heap m) (N : News h₀ L s.heap news) (S : LCg.SrcAt h₀ ax vs.toArray news) (hsz : vs.length ≤ sizeLine) (hds : ds 0 = [])
    (step : ∀ i v ys tl I oI C oC D m₂ h tk (E' : Value → Shared → Prop), vs[i]? = some v → RfAll tl ys (ds i) → LCg.NsObj oC m₂ → m₂ x = some v → Fr h₀ L h m → News h₀ L h ((I, oI) :: (C, oC) :: (D, LCg.lst ys) :: (tl ++ news)) → LCg.Off3 I C D (tl ++ news) → ((@Ne Nat I C) ∧ (@Ne Nat I D) ∧ (@Ne Nat C D)) →
      wpAny (model prog w) A (isTrue ct (compEnvC scope cl C env) (eval ct (compEnvC scope cl C env))) (fun ok s' => if ok = true then
        wpAny (model prog w) A (eval elt (compEnvC scope cl C env)) (LCg.CompEnd h₀ L m { s with heap := h, toks := tk } I oI C oC D (LCg.lst ys) (LCg.SrcAt h₀ ax vs.toArray) (fun y nx' => ∃ tl', nx' = tl' ++ news ∧ RfAll tl' (ys ++ [y]) (ds (i + 1)))) E' s'
        else LCg.CompEnd h₀ L m { s with heap := h, toks := tk } I oI C oC D (LCg.lst ys) (LCg.SrcAt h₀ ax vs.toArray) (fun _ nx' => ∃ tl', nx' = tl' ++ news ∧ RfAll tl' ys (ds (i + 1))) Value.none s') E' { s with heap := h, toks := tk })
    (fin : ∀ g tl ys, RfAll tl ys (ds vs.length) → Fin { s with heap := g } ys (tl ++ news)) :
    CS (LCt.CompSrcT prog w A h₀ L m env ct elt x scope cl Fin) (.ref ax) s := by
  refine .inl ⟨ax, vs.toArray, news, rfl, hh, F, N, S, by simpa using hsz, ?_⟩
  rintro s₂ ⟨g, rfl⟩
  refine compRestT_inv (fun i ys nx => ∃ tl, nx = tl ++ news ∧ RfAll tl ys (ds i)) ?_ ?_ _ 0 [] news (by rw [Nat.zero_add]) ⟨[], rfl, by rw [hds]; exact .nil⟩
  · rintro i v ys nx I oI C oC D m₂ h tk E' hi hP ⟨tl, rfl, hR⟩ hC hx F N off ne
    exact step i v ys tl I oI C oC D m₂ h tk E' (by simpa using hP) hR hC hx F N off ne
  · rintro ys nx ⟨tl, rfl, hR⟩
    exact fin g tl ys (by simpa using hR)
end
end

section
def WhPost (h₀ : Heap) (L : Addr) (J : Nat → (Str → Option Value) → List (Addr × Obj) → Prop) (n : Nat) (s : Shared) (Q : Flow → Shared → Prop) (f : Flow) (s₃ : Shared) : Prop := match f with
  | .brk => Q .next s₃
  | .ret v => Q (.ret v) s₃
  | _ => ∃ k h' tk' m' nx', k < n ∧ s₃ = { s with heap := h', toks := tk' } ∧ Fr h₀ L h' m' ∧ News h₀ L h' nx' ∧ J k m' nx'
section
variable {prog : Program} {w : World} {A : Around} {E : Value → Shared → Prop} {s : Shared} {h₀ : Heap} {env : Env} {test : Expr} {body : List Stmt} {pos : Pos} {Q : Flow → Shared → Prop}
theorem while_inv {L : Addr} {m₀ : Str → Option Value} {nx₀ : List (Addr × Obj)} (J : Nat → (Str → Option Value) → List (Addr × Obj) → Prop) (n : Nat)
    (F : Fr h₀ L s.heap m₀) (N : News h₀ L s.heap nx₀) (hj : J n m₀ nx₀)
    (turn : ∀ n m nx h tk, J n m nx → Fr h₀ L h m → News h₀ L h nx → wpAny (model prog w) A (isTrue test env (eval test env)) (fun b s₂ => if b = true then wpAny (model prog w) A (execs body env) (WhPost h₀ L J n s Q) E s₂ else Q .next s₂) E { s with heap := h, toks := tk })
    (hE : PassesOwn (model prog w) A env E := by passes_own) :
    wpAny (model prog w) A (exec (.While test body [] pos) env) Q E s := by
  refine wpAny_While ?_
  refine codeAny_whileLoop (fun n s' => ∃ h tk m nx, s' = { s with heap := h, toks := tk } ∧ Fr h₀ L h m ∧ News h₀ L h nx ∧ J n m nx) ?_ n ⟨_, _, m₀, nx₀, rfl, F, N, hj⟩
  rintro n s' ⟨h, tk, m, nx, rfl, F', N', hJ⟩
  have T := wpAny_mono (turn n m nx h tk hJ F' N') (Q' := fun b s₂ => if b = true then wpAny (model prog w) A (execs body env) (WhPost h₀ L J n s Q) (notedBy (model prog w) A env fun e s' => cameBackBy (model prog w) A env E e s') s₂ else Q .next s₂) (fun b s₂ q => by
    cases b with
    | true => simp only [if_true] at q ⊢; exact wpAny_passesOwn hE q
    | false => simpa using q) fun _ _ e => e
  refine wpAny_mono (wpAny_passesOwn hE T) (fun b s₂ q => ?_) fun _ _ e => e
  cases b with
  | true =>
    simp only [if_true] at q ⊢
    refine wpAny_mono q (fun f s₃ r => ?_) fun _ _ e => e
    cases f with
    | next => obtain ⟨k, h', tk', m', nx', hk, e, F₃, N₃, hJ₃⟩ := r; exact ⟨k, hk, h', tk', m', nx', e, F₃, N₃, hJ₃⟩
    | cont => obtain ⟨k, h', tk', m', nx', hk, e, F₃, N₃, hJ₃⟩ := r; exact ⟨k, hk, h', tk', m', nx', e, F₃, N₃, hJ₃⟩
    | brk => exact r
    | ret v => exact r
  | false =>
    simp only [Bool.false_eq_true, if_false] at q ⊢
    exact wpAny_execs_nil q
end
theorem isListN {h₀ h : Heap} {L l : Addr} {news : List (Addr × Obj)} {its : Array Value} {n : Nat} (N : News h₀ L h news) (hm : (l, ({ cls := .type "list", data := .seq its n } : Obj)) ∈ news) : h.IsList l its := ⟨_, (N _ hm).1, rfl, n, rfl⟩
theorem rfAll_ints {h₀ h : Heap} {L : Addr} {news tl : List (Addr × Obj)} (N : News h₀ L h news) (hs : ∀ p ∈ tl, p ∈ news) : ∀ {vs : List Value} {ns : List Int}, RfAll tl vs (ns.map .int) → IntsAre vs ns
  | [], [], _ => .nil
  | [], _ :: _, r => by cases r
  | _ :: _, [], r => by cases r
  | v :: vs, n :: ns, r => by
    cases r with
    | cons h r =>
      obtain ⟨t, rfl⟩ := rd_int (h.at N hs)
      exact .cons _ _ (rfAll_ints N hs r)
theorem ints_snoc {vs : List Value} {ns : List Int} {x : Int} (h : IntsAre vs (ns ++ [x])) : ∃ us t, vs = us ++ [.int x t] ∧ IntsAre us ns := by
  induction ns generalizing vs with
  | nil => cases h with | cons _ t r => cases r; exact ⟨[], t, rfl, .nil⟩
  | cons n ns ih => cases h with | cons _ t r => obtain ⟨us, u, rfl, q⟩ := ih r; exact ⟨_ :: us, u, rfl, .cons _ _ q⟩
end

section
section
variable {prog : Program} {w : World} {A : Around} {E : Value → Shared → Prop} {s : Shared} {env : Env} {h₀ : Heap} {body : List Stmt} {Q : Flow → Shared → Prop}
/-- a for over an iterator that hands on tuples (zip, enumerate); lst are entries of the ledger among what it looks at -/
theorem for_T {I : Addr} {fp wr : List Addr} {n : Nat} {Pt : Nat → Array Value → Prop} {St : Nat → Heap → Prop} {Mid : Nat → Addr → Heap → Prop} {elts : List Expr} {k0 : Nat} {tpos : Pos} {m₀ : Str → Option Value} {news : List (Addr × Obj)}
    (nx₀ lst : List (Addr × Obj)) (J : Nat → (Str → Option Value) → List (Addr × Obj) → Prop) (W : WalksT prog w A I fp wr n Pt St Mid) (hst : St 0 s.heap) (F : Fr h₀ env.locals s.heap m₀) (N : News h₀ env.locals s.heap news) (hsub : ∀ p ∈ nx₀ ++ lst, p ∈ news)
    (hLf : env.locals ∉ fp) (hal : ∀ i h, St i h → ∀ b ∈ fp, ∃ o, h.get? b = some o) (hwr : ∀ b ∈ wr, h₀.get? b = none) (hnf : ∀ p ∈ nx₀, p.1 ∉ fp) (hlf : ∀ p ∈ lst, p.1 ∈ fp ∧ p.1 ∉ wr) (hj : J 0 m₀ nx₀)
    (turn : ∀ i T vals m₁ nx h tk own, i < n → Pt i vals → (∀ p ∈ own, p.1 ∈ fp) → (∀ p ∈ lst, p ∈ own) → OwnOff own (nx.map (·.1)) → J i m₁ nx → Fr h₀ env.locals h m₁ → News h₀ env.locals h (nx ++ own) → IsTup h T vals →
      wpAny (model prog w) A (assign (.Tuple elts k0 tpos) env (.ref T)) (fun _ s₂ => wpAny (model prog w) A (execs body env) (InvPostG h₀ env.locals (J (i + 1)) own { s with heap := h, toks := tk } Q) E s₂) E { s with heap := h, toks := tk })
    (done : ∀ m₁ nx h tk, J n m₁ nx → (∀ p ∈ nx, p.1 ∉ fp) → Fr h₀ env.locals h m₁ → News h₀ env.locals h (nx ++ lst) → Q .next { s with heap := h, toks := tk })
    (hE : PassesOwn (model prog w) A env E := by passes_own) :
    ForAt prog w A env (.Tuple elts k0 tpos) body Q E (.ref I) s := by
  refine W.self 0 s _ _ hst ?_
  have hLw : env.locals ∉ wr := fun h => hLf (W.sub _ h)
  have old : ∀ b o, h₀.get? b = some o → b ∉ wr := fun b o e hb => by rw [hwr b hb] at e; cases e
  refine codeAny_forLoop_any
    (fun k s' => ∃ h' tk m' nx i, s' = { s with heap := h', toks := tk } ∧ St i h' ∧ Fr h₀ env.locals h' m' ∧ News h₀ env.locals h' (nx ++ lst) ∧ (∀ p ∈ nx, p.1 ∉ fp) ∧ J i m' nx ∧ i ≤ n ∧ k = n + 1 - i) ?_ (n + 1)
    ⟨s.heap, s.toks, m₀, nx₀, 0, rfl, hst, F, fun p hp => N p (hsub p hp), hnf, hj, Nat.zero_le _, rfl⟩
  rintro k s' ⟨h', tk, m', nx, i, rfl, hst', F', N', hnf', hJ, hi, rfl⟩
  have hall : ∀ p ∈ nx ++ lst, p.1 ∉ wr := fun p hp => (List.mem_append.mp hp).elim (fun q x => hnf' p q (W.sub _ x)) fun q => (hlf p q).2
  have next : ∀ (h₁ : Heap), (∀ b o, b ∉ wr → h'.get? b = some o → h₁.get? b = some o) → Fr h₀ env.locals h₁ m' ∧ News h₀ env.locals h₁ (nx ++ lst) := fun h₁ hk₁ =>
    ⟨⟨F'.ns.at' fun o e => hk₁ _ o hLw e, fun b o e => hk₁ b o (old b o e) (F'.keep b o e), F'.above⟩, fun p hp => ⟨hk₁ _ _ (hall p hp) (N' p hp).1, (N' p hp).2⟩⟩
  by_cases hlt : i < n
  · refine W.item i _ _ _ hlt hst' fun T vals h₁ tk₁ hP hTle hT hmid hk₁ => ?_
    obtain ⟨F₁, N₁⟩ := next h₁ hk₁
    have hTw := W.apart _ _ _ hmid
    refine W.go elts k0 tpos i T _ _ _ hmid fun h₂ hst₂ hk₂ => ?_
    obtain ⟨F₂, N₂⟩ := next h₂ fun b o hb e => hk₂ b o hb (hk₁ b o hb e)
    have hT₂ : IsTup h₂ T vals := let ⟨o, e, r⟩ := hT; ⟨o, hk₂ T o hTw e, r⟩
    have Nown : News h₀ env.locals h₂ (PyProof.Rows.ownOf h₀ fp h₂) := news_ownOf hLf
    have hoff : OwnOff (PyProof.Rows.ownOf h₀ fp h₂) (nx.map (·.1)) := by
      intro p hp b hb e
      obtain ⟨q, hq, rfl⟩ := List.mem_map.mp hb
      exact hnf' q hq (e ▸ ownOf_sub p hp)
    have hlo : ∀ p ∈ lst, p ∈ PyProof.Rows.ownOf h₀ fp h₂ := fun p hp => by
      have h1 := N₂ p (List.mem_append.mpr (.inr hp))
      exact mem_ownOf (hlf p hp).1 h1.2.2 h1.1
    have N₃ : News h₀ env.locals h₂ (nx ++ PyProof.Rows.ownOf h₀ fp h₂) := fun p hp => (List.mem_append.mp hp).elim (fun q => N₂ p (List.mem_append.mpr (.inl q))) fun q => Nown p q
    have TT := turn i T vals m' nx h₂ tk₁ (PyProof.Rows.ownOf h₀ fp h₂) hlt hP ownOf_sub hlo hoff hJ F₂ N₃ hT₂
    have T' : wpAny (model prog w) A (assign (.Tuple elts k0 tpos) env (.ref T)) (fun _ s₂ => wpAny (model prog w) A (execs body env) (InvPostG h₀ env.locals (J (i + 1)) (PyProof.Rows.ownOf h₀ fp h₂) { s with heap := h₂, toks := tk₁ } Q) (notedBy (model prog w) A env fun e s' => cameBackBy (model prog w) A env E e s') s₂) (notedBy (model prog w) A env fun e s' => cameBackBy (model prog w) A env E e s') { s with heap := h₂, toks := tk₁ } :=
      wpAny_passesOwn hE (wpAny_mono TT (fun _ s₂ hq => wpAny_passesOwn hE hq) fun _ _ e => e)
    refine wpAny_mono T' (fun _ s₂ hq => wpAny_mono hq (fun f s₃ h₃ => ?_) fun _ _ e => e) fun _ _ e => e
    have fin : InvEndG h₀ env.locals (J (i + 1)) (PyProof.Rows.ownOf h₀ fp h₂) { s with heap := h₂, toks := tk₁ } s₃ → ∃ k, k < n + 1 - i ∧ ∃ h' tk m' nx j, s₃ = { s with heap := h', toks := tk } ∧ St j h' ∧ Fr h₀ env.locals h' m' ∧ News h₀ env.locals h' (nx ++ lst) ∧ (∀ p ∈ nx, p.1 ∉ fp) ∧ J j m' nx ∧ j ≤ n ∧ k = n + 1 - j := by
      rintro ⟨h₄, tk₄, m₄, news₄, nx₄, rfl, F₄, N₄, hn, ho, ha, hJ₄⟩
      have hf₄ : ∀ p ∈ nx₄, p.1 ∉ fp := fun p hp hb => by
        obtain ⟨o, e⟩ := hal _ _ hst₂ _ hb
        exact ha _ (mem_ownOf hb (N₄ p (hn p hp)).2.2 e) _ (List.mem_map.mpr ⟨p, hp, rfl⟩) rfl
      refine ⟨n + 1 - (i + 1), by omega, h₄, tk₄, m₄, nx₄, i + 1, rfl, W.frame _ _ _ hst₂ fun b hb o e => ?_, F₄, ?_, hf₄, hJ₄, hlt, rfl⟩
      · cases hn0 : h₀.get? b with
        | some o₀ =>
          have : o₀ = o := by have := F₂.keep b o₀ hn0; rw [e] at this; exact (Option.some.inj this).symm
          exact this ▸ F₄.keep b o₀ hn0
        | none => exact (N₄ _ (ho _ (mem_ownOf hb hn0 e))).1
      · intro p hp
        rcases List.mem_append.mp hp with hp | hp
        · exact N₄ p (hn p hp)
        · exact N₄ p (ho p (hlo p hp))
    cases f with
    | next => exact fin h₃
    | cont => exact fin h₃
    | brk => exact h₃
    | ret v => exact h₃
  · have hin : i = n := by omega
    subst hin
    refine W.done _ _ _ hst' fun h₁ tk₁ hk₁ => wpAny_execs_nil ?_
    obtain ⟨F₁, N₁⟩ := next h₁ hk₁
    exact done m' nx h₁ tk₁ hJ hnf' F₁ N₁

theorem zip_alive {z TI TO i1 i2 l1 l2 : Addr} {xs ys : Array Value} : ∀ (i : Nat) (h : Heap), (IsZip h z TI TO .none ∧ IsPair h TI (.ref i1) (.ref i2) ∧ (∃ a b, IsPair h TO a b) ∧ h.IsListIter i1 l1 i ∧ h.IsListIter i2 l2 i ∧ h.IsList l1 xs ∧ h.IsList l2 ys) → ∀ b ∈ [z, TI, TO, i1, i2, l1, l2], ∃ o, h.get? b = some o := by
  rintro i h ⟨hz, hTI, ⟨a, b, hTO⟩, ⟨o1, h1, _⟩, ⟨o2, h2, _⟩, ⟨o3, h3, _⟩, ⟨o4, h4, _⟩⟩ b hb
  simp at hb
  rcases hb with rfl | rfl | rfl | rfl | rfl | rfl | rfl
  · exact ⟨_, hz⟩
  · exact ⟨_, hTI⟩
  · exact ⟨_, hTO⟩
  · exact ⟨_, h1⟩
  · exact ⟨_, h2⟩
  · exact ⟨_, h3⟩
  · exact ⟨_, h4⟩
theorem enum_alive {e it l : Addr} {items : Array Value} : ∀ (i : Nat) (h : Heap), ((∃ old, IsEnum h e it i old) ∧ h.IsListIter it l i ∧ h.IsList l items) → ∀ b ∈ [e, it, l], ∃ o, h.get? b = some o := by
  rintro i h ⟨⟨old, he⟩, ⟨o1, h1, _⟩, ⟨o2, h2, _⟩⟩ b hb
  simp at hb
  rcases hb with rfl | rfl | rfl
  · exact ⟨_, he⟩
  · exact ⟨_, h1⟩
  · exact ⟨_, h2⟩
end
section
variable {prog : Program} {w : World} {A : Around} {E : Value → Shared → Prop} {s : Shared} {env : Env} {h₀ : Heap} {body : List Stmt} {Q : Flow → Shared → Prop}
theorem for_stT {I : Addr} {fp wr : List Addr} {n : Nat} {Pt : Nat → Array Value → Prop} {St : Nat → Heap → Prop} {Mid : Nat → Addr → Heap → Prop} {elts : List Expr} {k0 : Nat} {tpos : Pos} {m₀ : Str → Option Value} {news : List (Addr × Obj)}
    (nx₀ lst : List (Addr × Obj)) (G : Nat → List (Str × Value) → List (Addr × Obj) → Prop) (ps₀ : List (Str × Value)) (stored : List Str) (W : WalksT prog w A I fp wr n Pt St Mid) (hst : St 0 s.heap) (F : Fr h₀ env.locals s.heap m₀) (N : News h₀ env.locals s.heap news) (hsub : ∀ p ∈ nx₀ ++ lst, p ∈ news)
    (hLf : env.locals ∉ fp) (hal : ∀ i h, St i h → ∀ b ∈ fp, ∃ o, h.get? b = some o) (hwr : ∀ b ∈ wr, h₀.get? b = none) (hnf : ∀ p ∈ nx₀, p.1 ∉ fp) (hlf : ∀ p ∈ lst, p.1 ∈ fp ∧ p.1 ∉ wr) (hg : G 0 ps₀ nx₀) (hps : ∀ p ∈ ps₀, m₀ p.1 = some p.2)
    (turn : ∀ i T vals ps (u : Str → Option Value) nx h tk own, i < n → Pt i vals → (∀ p ∈ lst, p ∈ own) → OwnOff own (nx.map (·.1)) → G i ps nx → Fr h₀ env.locals h (kstB (fun z => if stored.contains z then u z else m₀ z) ps) → News h₀ env.locals h (nx ++ own) → IsTup h T vals →
      wpAny (model prog w) A (assign (.Tuple elts k0 tpos) env (.ref T)) (fun _ s₂ => wpAny (model prog w) A (execs body env) (InvPostG h₀ env.locals (StJ G stored m₀ (i + 1)) own { s with heap := h, toks := tk } Q) E s₂) E { s with heap := h, toks := tk })
    (done : ∀ ps (u : Str → Option Value) nx h tk, G n ps nx → (∀ p ∈ nx, p.1 ∉ fp) → Fr h₀ env.locals h (kstB (fun z => if stored.contains z then u z else m₀ z) ps) → News h₀ env.locals h (nx ++ lst) → Q .next { s with heap := h, toks := tk })
    (hE : PassesOwn (model prog w) A env E := by passes_own) :
    ForAt prog w A env (.Tuple elts k0 tpos) body Q E (.ref I) s := by
  refine for_T nx₀ lst (StJ G stored m₀) W hst F N hsub hLf hal hwr hnf hlf ⟨ps₀, hg, hps, fun _ _ _ => rfl⟩ ?_ ?_ hE
  · rintro i T vals m₁ nx h tk own hi hP _ hlo hoff ⟨ps, hG, hm⟩ F₁ N₁ hT
    exact turn i T vals ps m₁ nx h tk own hi hP hlo hoff hG (hm.form ▸ F₁) N₁ hT
  · rintro m₁ nx h tk ⟨ps, hG, hm⟩ hnf' F₁ N₁
    exact done ps m₁ nx h tk hG hnf' (hm.form ▸ F₁) N₁
end
theorem ns_not_pair {h h₀ : Heap} {L a : Addr} {m : Str → Option Value} {x y : Value} (F : Fr h₀ L h m) (p : IsPair h a x y) : L ≠ a := by
  rintro rfl
  obtain ⟨o, es, ep, e, hd, _⟩ := F.ns
  have p' : h.get? L = some _ := p
  rw [e] at p'
  cases p'
  cases hd
theorem fr_new {h h₀ : Heap} {L b : Addr} {m : Str → Option Value} (F : Fr h₀ L h m) (hb : @LT.lt Nat _ L b) : h₀.get? b = none := by
  cases e : h₀.get? b with
  | none => rfl
  | some o => exact absurd (Nat.lt_trans (Nat.lt_of_lt_of_le (Heap.lt_size e) F.above) hb) (Nat.lt_irrefl _)
end

section
section
variable {prog : Program} {w : World} {A : Around} {E : Value → Shared → Prop} {s : Shared} {h₀ : Heap} {L : Addr} {m : Str → Option Value} {env : Env}
def TAt (ax : Addr) (its : Array Value) (n : Nat) (news : List (Addr × Obj)) : Prop := (ax, ({ cls := .type "tuple", data := .seq its n } : Obj)) ∈ news
theorem TAt.tup {h : Heap} {ax : Addr} {its : Array Value} {n : Nat} {news : List (Addr × Obj)} (x : TAt ax its n news) (N : News h₀ L h news) : h.IsTuple ax its := ⟨_, (N _ x).1, rfl, n, rfl⟩
def SrcTp (prog : Program) (w : World) (A : Around) (h₀ : Heap) (L : Addr) (m : Str → Option Value) (env : Env) (elt : Expr) (x : Str) (scope : Scope) (cl : List (Str × Addr)) (Fin : Shared → List Value → List (Addr × Obj) → Prop) (xv : Value) (s₁ : Shared) : Prop :=
  ∃ ax its k news, xv = .ref ax ∧ A.handled = none ∧ Fr h₀ L s₁.heap m ∧ News h₀ L s₁.heap news ∧ TAt ax its k news ∧ its.size ≤ sizeLine ∧
    ∀ s₂ : Shared, (∃ h, s₂ = { s₁ with heap := h }) → LCg.CompRest prog w A h₀ L m env elt x scope cl s₂ (TAt ax its k) (fun i v => its[i]? = some v) (Fin s₂) its.size 0 [] news

theorem cs_Tp {elt iter : Expr} {x : Str} {px : Pos} {scope : Scope} {cl : List (Str × Addr)} {pos : Pos} {Q : Value → Shared → Prop} (_F₀ : Fr h₀ L s.heap m)
    (hclos : closureFor scope env = pure cl) (hcell : ∀ y ∈ scope.names, y.2 ≠ .cell) (hkind : scope.kind = .function)
    (hnames : ∀ y ∈ scope.names, y.2 = .local → scope.names.lookup y.1 = some .local) (hx : scope.names.lookup x = some .local)
    (h : wpAny (model prog w) A (eval iter env) (CS (SrcTp prog w A h₀ L m env elt x scope cl (fun s₂ => LCg.FinE h₀ L m s₂ Q))) E s)
    (hs : ∀ x, foldedSetIterable iter env x = pure x := by intro _; rfl) :
    wpAny (model prog w) A (eval (.ListComp elt [⟨.Name x px, iter, [], 0⟩] scope pos) env) Q E s := by
  rw [eval_ListComp]
  refine wpAny_comprehension_free (use := none) rfl hs hclos hkind hnames (wpAny_mono h (fun xv s₁ h₁ => ?_) fun _ _ e => e)
  obtain ⟨ax, its, k, news, rfl, hh, F, N, S, hsz, R⟩ := h₁
  have hl := S.tup N
  have hlt : ax < s₁.heap.objs.size := by obtain ⟨_, e, _⟩ := hl; exact Heap.lt_size e
  refine wpAny_pyIter_tuple hl ?_
  have up : ∀ b o, s₁.heap.get? b = some o → (s₁.heap.push { cls := .type "tuple_iterator", data := .fields #[.ref ax, .int 0 0] }).get? b = some o := fun b o e => Heap.get?_push_of_some _ e
  refine LCg.block_U (Walks.tuple hh s₁.heap.objs.size ax (Nat.ne_of_lt hlt) its) hsz (fun i h st => by obtain ⟨o, e, _⟩ := st.1; exact ⟨o, e⟩) (fun i h h' o nw st e e' k' N' S' => ⟨by obtain ⟨o', q, r⟩ := st.1; rw [e] at q; cases q; exact ⟨o, e', r⟩, S'.tup N'⟩) hcell hkind hx ⟨⟨_, Heap.get?_push_size _ rfl, rfl, rfl⟩, by obtain ⟨o, e, r⟩ := hl; exact ⟨o, up _ _ e, r⟩⟩ (fun b hb => ?_)
    (F.keeps up) (N.grown up) (Nat.ne_of_lt F.ns.lt) (next_is_new F) (fun p hp => Nat.ne_of_lt (Heap.lt_size (N p hp).1)) S (R _ ⟨_, rfl⟩) ?_
  · show b < (s₁.heap.push _).objs.size
    rw [Heap.size_push]
    rcases List.mem_cons.mp hb with rfl | hb
    · exact Nat.lt_succ_self _
    · rw [List.mem_singleton.mp hb]; exact Nat.lt_succ_of_lt hlt
  · intro D C h tk m' ys news' F' N' o1 hn hC₀ hD₀ hCL hDL hCD offC fin
    refine ⟨m', hn, fun h'' hs'' => fin D h'' tk (F'.change hs'' hCL hC₀) (fun p hp => ?_) o1⟩
    refine ⟨hs''.extBut _ _ ?_ (N' p hp).1, (N' p hp).2⟩
    rcases List.mem_cons.mp hp with rfl | hp
    · exact Ne.symm hCD
    · exact offC p hp

theorem comp_tup {elt : Expr} {x : Str} {scope : Scope} {cl : List (Str × Addr)} {Fin : Shared → List Value → List (Addr × Obj) → Prop} {ax : Addr} {vs : List Value} {k : Nat} {news : List (Addr × Obj)} (ds : Nat → List PyData)
    (hh : A.handled = none) (F : Fr h₀ L s.heap m) (N : News h₀ L s.heap news) (S : TAt ax vs.toArray k news) (hsz : vs.length ≤ sizeLine) (hds : ds 0 = [])
    (step : ∀ i v ys tl I oI C oC D m₂ h tk (E' : Value → Shared → Prop), vs[i]? = some v → RfAll tl ys (ds i) → LCg.NsObj oC m₂ → m₂ x = some v → Fr h₀ L h m → News h₀ L h ((I, oI) :: (C, oC) :: (D, LCg.lst ys) :: (tl ++ news)) → LCg.Off3 I C D (tl ++ news) → ((@Ne Nat I C) ∧ (@Ne Nat I D) ∧ (@Ne Nat C D)) →
      wpAny (model prog w) A (eval elt (compEnvC scope cl C env)) (LCg.CompEnd h₀ L m { s with heap := h, toks := tk } I oI C oC D (LCg.lst ys) (TAt ax vs.toArray k) (fun y nx' => ∃ tl', nx' = tl' ++ news ∧ RfAll tl' (ys ++ [y]) (ds (i + 1)))) E' { s with heap := h, toks := tk })
    (fin : ∀ g tl ys, RfAll tl ys (ds vs.length) → Fin { s with heap := g } ys (tl ++ news)) :
    CS (SrcTp prog w A h₀ L m env elt x scope cl Fin) (.ref ax) s := by
  refine ⟨ax, vs.toArray, k, news, rfl, hh, F, N, S, by simpa using hsz, ?_⟩
  rintro s₂ ⟨g, rfl⟩
  refine compRest_inv (fun i ys nx => ∃ tl, nx = tl ++ news ∧ RfAll tl ys (ds i)) ?_ ?_ _ 0 [] news (by rw [Nat.zero_add]) ⟨[], rfl, by rw [hds]; exact .nil⟩
  · rintro i v ys nx I oI C oC D m₂ h tk E' hi hP ⟨tl, rfl, hR⟩ hC hx F N off ne
    exact step i v ys tl I oI C oC D m₂ h tk E' (by simpa using hP) hR hC hx F N off ne
  · rintro ys nx ⟨tl, rfl, hR⟩
    exact fin g tl ys (by simpa using hR)
end
end

section
theorem News.sub {h₀ h : Heap} {L : Addr} {a b : List (Addr × Obj)} (N : News h₀ L h a) (hs : ∀ p ∈ b, p ∈ a) : News h₀ L h b := fun p hp => N p (hs p hp)
/-- extend, the ledger handed on by choice -/
theorem extend_at {prog : Program} {w : World} {A : Around} {E : Value → Shared → Prop} {s : Shared} {h₀ : Heap} {L : Addr} {m : Str → Option Value} {D b : Addr} {ys : List Value} {n n2 : Nat} {its2 : List Value} {all : List (Addr × Obj)} {Q : Value → Shared → Prop} (rest : List (Addr × Obj))
    (F : Fr h₀ L s.heap m) (N : News h₀ L s.heap all) (hD : (D, listOf ys.toArray n) ∈ all) (hb : (b, listOf its2.toArray n2) ∈ all) (hr : ∀ p ∈ rest, p ∈ all) (hap : ∀ p ∈ rest, p.1 ≠ D) (hbD : b ≠ D) (hsz : ys.length + its2.length ≤ sizeLine)
    (h : ∀ h' n', Fr h₀ L h' m → News h₀ L h' ((D, listOf (ys ++ its2).toArray n') :: rest) → Q .none { s with heap := h' }) :
    wpAny (model prog w) A (call (.builtin "list.extend") [.ref D, .ref b]) Q E s := by
  refine extend_my (rest := (b, listOf its2.toArray n2) :: rest) (n := n) F (fun p hp => N p ?_) (fun p hp => ?_) (.head _) hsz fun h' n' F' N' => h h' n' F' fun p hp => N' p ?_
  · rcases List.mem_cons.mp hp with rfl | hp
    · exact hD
    · rcases List.mem_cons.mp hp with rfl | hp
      · exact hb
      · exact hr p hp
  · rcases List.mem_cons.mp hp with rfl | hp
    · exact hbD
    · exact hap p hp
  · rcases List.mem_cons.mp hp with rfl | hp
    · exact .head _
    · exact .tail _ (.tail _ hp)
def CutPost (P : Value → Prop) (nw : List (Addr × Obj)) (h₀ : Heap) (L : Addr) (m : Str → Option Value) (s : Shared) (v : Value) (s' : Shared) : Prop := P v ∧ ∃ h' tk, s' = { s with heap := h', toks := tk } ∧ Fr h₀ L h' m ∧ News h₀ L h' nw
theorem CutPost.mk {P : Value → Prop} {nw all : List (Addr × Obj)} {h₀ : Heap} {L : Addr} {m : Str → Option Value} {s : Shared} {v : Value} {h' : Heap} {tk : Nat} (hP : P v) (F : Fr h₀ L h' m) (N : News h₀ L h' all) (hs : ∀ p ∈ nw, p ∈ all) : CutPost P nw h₀ L m s v { s with heap := h', toks := tk } :=
  ⟨hP, h', tk, rfl, F, fun p hp => N p (hs p hp)⟩
/-- a value that is told by P alone; of the ledger nw stays -/
theorem cut_val {M : Model} {A : Around} {E : Value → Shared → Prop} {s : Shared} {t : Sem Value} {Q : Value → Shared → Prop} {h₀ : Heap} {L : Addr} {m : Str → Option Value} (P : Value → Prop) (nw : List (Addr × Obj)) (_F : Fr h₀ L s.heap m)
    (h1 : wpAny M A t (CutPost P nw h₀ L m s) (fun _ _ => False) s)
    (h2 : ∀ v h' tk, P v → Fr h₀ L h' m → News h₀ L h' nw → Q v { s with heap := h', toks := tk }) : wpAny M A t Q E s := by
  refine wpAny_mono h1 ?_ fun _ _ h => False.elim h
  rintro v s' ⟨hP, h', tk, rfl, F, N⟩
  exact h2 v h' tk hP F N
theorem off3_mk {I C D : Addr} : ∀ {l : List (Addr × Obj)}, (∀ p ∈ l, p.1 ≠ I ∧ p.1 ≠ C ∧ p.1 ≠ D) → LCg.Off3 I C D l
  | [], _ => trivial
  | p :: _, h => ⟨h p (.head _), off3_mk fun q hq => h q (.tail _ hq)⟩
/-- a comprehension's turn that has called -/
theorem compEnd_call {h₀ : Heap} {L I C D : Addr} {m : Str → Option Value} {s₁ : Shared} {oI oC oD : Obj} {S : List (Addr × Obj) → Prop} {y : Value} {h' : Heap} {tk : Nat} {tl tl2 news : List (Addr × Obj)} {ys : List Value} {ds ds' : List PyData} {d : PyData}
    (F : Fr h₀ L h' m) (N : News h₀ L h' ((I, oI) :: (C, oC) :: (D, oD) :: (tl ++ news) ++ tl2)) (off : LCg.Off3 I C D (tl ++ news)) (of : OwnOff tl2 (((I, oI) :: (C, oC) :: (D, oD) :: (tl ++ news)).map (·.1)))
    (hS : ∀ l, (∀ p ∈ news, p ∈ l) → S l) (hR : RfAll tl ys ds) (P : Rf tl2 y d) (hd : ds' = ds ++ [d]) :
    LCg.CompEnd h₀ L m s₁ I oI C oC D oD S (fun y nx' => ∃ tl', nx' = tl' ++ news ∧ RfAll tl' (ys ++ [y]) ds') y { s₁ with heap := h', toks := tk } := by
  refine LCg.CompEnd.intro F N ((tl ++ tl2) ++ news) (fun p hp => ?_) (off3_mk fun p hp => ?_) (hS _ fun p hp => List.mem_append.mpr (.inr hp)) ⟨tl ++ tl2, rfl, ?_⟩
  · simp only [List.mem_cons, List.mem_append] at hp ⊢
    rcases hp with hp | hp | hp | (hp | hp) | hp
    · exact .inl (.inl hp)
    · exact .inl (.inr (.inl hp))
    · exact .inl (.inr (.inr (.inl hp)))
    · exact .inl (.inr (.inr (.inr (.inl hp))))
    · exact .inr hp
    · exact .inl (.inr (.inr (.inr (.inr hp))))
  · rcases List.mem_append.mp hp with hp | hp
    · rcases List.mem_append.mp hp with hp | hp
      · exact off.mem p (List.mem_append.mpr (.inl hp))
      · exact ⟨of p hp _ (.head _), of p hp _ (.tail _ (.head _)), of p hp _ (.tail _ (.tail _ (.head _)))⟩
    · exact off.mem p (List.mem_append.mpr (.inr hp))
  · rw [hd]
    exact (hR.mono fun p hp => List.mem_append.mpr (.inl hp)).append (.cons (P.mono fun p hp => List.mem_append.mpr (.inr hp)) .nil)
/-- append, the ledger handed on by choice -/
theorem append_to {prog : Program} {w : World} {A : Around} {E : Value → Shared → Prop} {s : Shared} {h₀ : Heap} {L : Addr} {m : Str → Option Value} {D : Addr} {ys : List Value} {n : Nat} {x : Value} {all : List (Addr × Obj)} {Q : Value → Shared → Prop} (rest : List (Addr × Obj))
    (F : Fr h₀ L s.heap m) (N : News h₀ L s.heap all) (hD : (D, listOf ys.toArray n) ∈ all) (hr : ∀ p ∈ rest, p ∈ all) (hap : ∀ p ∈ rest, p.1 ≠ D) (hsz : ys.length < sizeLine)
    (h : ∀ h' n', Fr h₀ L h' m → News h₀ L h' ((D, listOf (ys ++ [x]).toArray n') :: rest) → Q .none { s with heap := h' }) :
    wpAny (model prog w) A (call (.builtin "list.append") [.ref D, x]) Q E s := by
  refine append_in (own := []) (n := n) (ys := ys) (rest := rest) F (fun p hp => N p ?_) (fun p hp => nomatch hp) hap ?_ ?_
  · rcases List.mem_cons.mp hp with rfl | hp
    · exact hD
    · exact hr p hp
  · exact fun h' F' N' => h h' (n + 1) F' N'
  · exact Nat.le_of_lt hsz
/-- append to a list that stands third, behind it the rest in two parts -/
theorem append_l3 {prog : Program} {w : World} {A : Around} {E : Value → Shared → Prop} {s : Shared} {h₀ : Heap} {L : Addr} {m : Str → Option Value} {D : Addr} {e v : Addr × Obj} {ys : List Value} {n : Nat} {x : Value} {mid tl : List (Addr × Obj)} {Q : Value → Shared → Prop}
    (F : Fr h₀ L s.heap m) (N : News h₀ L s.heap (e :: v :: (((D, listOf ys.toArray n) :: mid) ++ tl))) (he : e.1 ≠ D) (hm : ∀ p ∈ mid, p.1 ≠ D) (ht : ∀ p ∈ tl, p.1 ≠ D) (hsz : ys.length < sizeLine)
    (h : ∀ h' n', Fr h₀ L h' m → News h₀ L h' ((D, listOf (ys ++ [x]).toArray n') :: e :: (mid ++ tl)) → Q .none { s with heap := h' }) :
    wpAny (model prog w) A (call (.builtin "list.append") [.ref D, x]) Q E s := by
  refine append_to (e :: (mid ++ tl)) F N (.tail _ (.tail _ (.head _))) (fun p hp => ?_) (fun p hp => ?_) hsz h
  · rcases List.mem_cons.mp hp with rfl | hp
    · exact .head _
    · exact .tail _ (.tail _ (.tail _ hp))
  · rcases List.mem_cons.mp hp with rfl | hp
    · exact he
    · exact (List.mem_append.mp hp).elim (hm p) (ht p)
end

section
theorem canLay_map {α : Type} (f : α → PyData) (hf : ∀ a, (f a).canLay0 = true) : ∀ l : List α, PyData.canLayAll0 (l.map f) = true
  | [] => by simp [PyData.canLayAll0]
  | a :: l => by simp [PyData.canLayAll0, hf a, canLay_map f hf l]
theorem depth_map {α : Type} (f : α → PyData) (k : Nat) (hf : ∀ a, (f a).depth ≤ k) : ∀ l : List α, PyData.depthAll (l.map f) ≤ k
  | [] => by simp [PyData.depthAll]
  | a :: l => by
    have h1 := hf a
    have h2 := depth_map f k hf l
    simp only [List.map_cons, PyData.depthAll]; omega
theorem shaped_mk {d : PyData} (h1 : d.canLay0 = true) (h2 : d.depth ≤ 64) : SeqAt.shaped d = true := Bool.and_eq_true_iff.mpr ⟨h1, decide_eq_true h2⟩
theorem lP_lay (l : List Int) : (lP l).canLay0 = true ∧ (lP l).depth ≤ 1 := by
  unfold lP
  have h1 := canLay_map PyData.int (fun _ => rfl) l
  have h2 := depth_map PyData.int 0 (fun _ => Nat.le_refl _) l
  exact ⟨h1, by simp only [PyData.depth]; omega⟩
theorem shaped_lP (l : List Int) : SeqAt.shaped (lP l) = true := shaped_mk (lP_lay l).1 (Nat.le_trans (lP_lay l).2 (by decide))
theorem shaped_llP (l : List (List Int)) : SeqAt.shaped (llP l) = true := by
  have h1 := canLay_map lP (fun a => (lP_lay a).1) l
  have h2 := depth_map lP 1 (fun a => (lP_lay a).2) l
  exact shaped_mk h1 (by simp only [llP, PyData.depth]; omega)
theorem shaped_rows (l : List Row) : SeqAt.shaped (.list (l.map rP)) = true := by
  have h1 := canLay_map rP (fun _ => rfl) l
  have h2 := depth_map rP 1 (fun _ => Nat.le_refl _) l
  exact shaped_mk h1 (by simp only [PyData.depth]; omega)
theorem ne_same {prog : Program} {w : World} {A : Around} {E : Value → Shared → Prop} {s : Shared} {a b : Value} {d : PyData} {Q : Value → Shared → Prop} (ra : Rd s.heap a d) (rb : Rd s.heap b d) (hd : SeqAt.shaped d = true) (hu : A.units + 64 < cLine)
    (h : Q (.bool false) s) : wpAny (model prog w) A (compareOp .NotEq a b) Q E s := by
  obtain ⟨as, ra⟩ := ra
  obtain ⟨bs, rb⟩ := rb
  refine ne_dataH ra rb hd hd hu ?_
  rw [SeqAt.eqv_refl d (SeqAt.canLay_of_shaped hd)]
  exact h
theorem list_at {prog : Program} {w : World} {A : Around} {E : Value → Shared → Prop} {s : Shared} {value slice : PySem.Expr} {D : Addr} {us : List Value} {k : Int} {v : Value} {u : Tok} {Q : Value → Shared → Prop} (hl : s.heap.IsList D us.toArray)
    (hk : (0 ≤ k ∧ us[k.toNat]? = some v) ∨ (k < 0 ∧ -(us.length : Int) ≤ k ∧ us[(k + us.length).toNat]? = some v)) (h1 : -(2 ^ 63) ≤ k) (h2 : k < 2 ^ 63) (h : Q v s)
    (hs : subscripted slice false (.ref D) (.int k u) = operate [.ref D, .int k u] (getItem (.ref D) (.int k u))) :
    wpAny (model prog w) A (subscriptTail value slice (.ref D) (.int k u)) Q E s := by
  refine tail_any hl.typeIs slot_list_getitem.lookup ?_ hs
  rcases hk with ⟨a, b⟩ | ⟨a, b, c⟩
  · exact wpAny_getItem_list hl a h2 (by simpa using b) h
  · exact wpAny_getItem_list_neg hl a (by simpa using b) h1 (by simpa using c) h
/-- a comprehension's turn whose value stands in the ledger already -/
theorem compEnd_in {h₀ : Heap} {L I C D : Addr} {m : Str → Option Value} {s₁ : Shared} {oI oC oD : Obj} {S : List (Addr × Obj) → Prop} {y : Value} {h' : Heap} {tk : Nat} {tl tl2 news nw : List (Addr × Obj)} {ys : List Value} {ds ds' : List PyData} {d : PyData}
    (F : Fr h₀ L h' m) (N : News h₀ L h' nw) (hsub : ∀ p ∈ (I, oI) :: (C, oC) :: (D, oD) :: ((tl ++ tl2) ++ news), p ∈ nw) (off : LCg.Off3 I C D (tl ++ news)) (of : ∀ p ∈ tl2, p.1 ≠ I ∧ p.1 ≠ C ∧ p.1 ≠ D)
    (hS : ∀ l, (∀ p ∈ news, p ∈ l) → S l) (hR : RfAll tl ys ds) (P : Rf tl2 y d) (hd : ds' = ds ++ [d]) :
    LCg.CompEnd h₀ L m s₁ I oI C oC D oD S (fun y nx' => ∃ tl', nx' = tl' ++ news ∧ RfAll tl' (ys ++ [y]) ds') y { s₁ with heap := h', toks := tk } := by
  refine LCg.CompEnd.intro F N ((tl ++ tl2) ++ news) hsub (off3_mk fun p hp => ?_) (hS _ fun p hp => List.mem_append.mpr (.inr hp)) ⟨tl ++ tl2, rfl, ?_⟩
  · rcases List.mem_append.mp hp with hp | hp
    · rcases List.mem_append.mp hp with hp | hp
      · exact off.mem p (List.mem_append.mpr (.inl hp))
      · exact of p hp
    · exact off.mem p (List.mem_append.mpr (.inr hp))
  · rw [hd]
    exact (hR.mono fun p hp => List.mem_append.mpr (.inl hp)).append (.cons (P.mono fun p hp => List.mem_append.mpr (.inr hp)) .nil)
end

section
section
variable {prog : Program} {w : World} {A : Around} {E : Value → Shared → Prop} {s : Shared}
def ByteAt (b : Array UInt8) (i : Nat) (v : Value) : Prop := ∃ c u, b[i]? = some c ∧ v = .int (c.toNat : Int) u
theorem ext_bytes {R : Result → Shared → Prop} (hh : A.handled = none) (b : Array UInt8) (t : Tok) (S : Addr) (res : Value) (c₀ : Nat) (hS : s.heap.get? S = some { cls := .type "list", data := .seq #[] c₀ }) (hn : b.size ≤ sizeLine)
    (hR : ∀ h' tk acc' c', (∀ b o, b ≠ S → s.heap.get? b = some o → h'.get? b = some o) → h'.get? S = some { cls := .type "list", dict := none, data := .seq acc' c', slots := #[] } →
      ItemsOf (ByteAt b) acc' b.size → R (.ok (.ret res)) { s with heap := h', toks := tk }) :
    wpAny (model prog w) A.in1 (Builtin.List.listExtendWith (.ref S) (.bytes b t) res)
      (fun fin s' => match fin with | .done f => R (.ok f) s' | .again c' => c'.quiet = true ∧ codeAny (model prog w) A c' R s') (fun e s' => R (.error e) s') s := by
  have hSI : S ≠ s.heap.objs.size := Nat.ne_of_lt (Heap.lt_size hS)
  have hSf : S ∉ [s.heap.objs.size] := fun hm => hSI (List.mem_singleton.mp hm)
  unfold Builtin.List.listExtendWith
  refine wpAny_bind (wpAny_typeOf (T := "bytes") (v := .bytes b t) rfl ?_)
  have h1 : Builtin.List.listSameRef (.ref S) (.bytes b t) = false := rfl
  have h2 : (Value.type "bytes" == Value.type "list") = false := by decide
  have h3 : (Value.type "bytes" == Value.type "tuple") = false := by decide
  simp only [h1, h2, h3, Bool.or_false, Bool.false_eq_true, if_false]
  refine wpAny_bind (KBw.pyIter_bytes ?_)
  refine wpAny_bind (wpAny_holding ?_)
  unfold Builtin.List.listLengthHint
  refine wpAny_bind (wpAny_specialOf (T := "bytes") (v := .bytes b t) rfl FB.slot_bytes_len.lookup ?_)
  wp_delta
  refine wpAny_bind (wpAny_isInstance (T := "bytes") (v := .bytes b t) (b := true) rfl (by rw [isSubtype_type]; kernel_rfl) ?_)
  show wpAny _ _ (typeOf (Value.bytes b t) >>= _) _ _ _
  refine wpAny_bind (wpAny_typeOf (T := "bytes") (v := .bytes b t) rfl ?_)
  refine wpAny_pure ?_
  rw [if_neg (by decide)]
  refine wpAny_pure ⟨plainId_quiet F.plain_extend_loop _, codeAny_extend_loopS ((KBw.walks (A := A.in1) hh s.heap.objs.size b t).toS) hn _ hSf _ b.size 0 _ _ _ rfl (Nat.zero_le _) ⟨_, Heap.get?_push_size _ rfl, rfl, rfl⟩ (Heap.get?_push_of_some _ hS) (ItemsOf.nil _) fun s' acc' c' hm hS' hacc => ?_⟩
  rw [Moved.eq_with hm]
  refine hR s'.heap s'.toks acc' c' (fun b ob hb e => hm.heap b ob (fun hmem => ?_) (Heap.get?_push_of_some _ e)) hS' hacc
  rcases List.mem_cons.mp hmem with e' | hmem
  · exact hb e'
  · exact absurd (Heap.lt_size e) (by rw [List.mem_singleton.mp hmem]; exact Nat.lt_irrefl _)
theorem init_bytes {R : Result → Shared → Prop} (hh : A.handled = none) (b : Array UInt8) (t : Tok) (S : Addr) (hS : s.heap.get? S = some { cls := .type "list", data := .seq #[] }) (hn : b.size ≤ sizeLine)
    (hR : ∀ h' tk acc' c', (∀ b o, b ≠ S → s.heap.get? b = some o → h'.get? b = some o) → h'.get? S = some { cls := .type "list", dict := none, data := .seq acc' c', slots := #[] } →
      ItemsOf (ByteAt b) acc' b.size → R (.ok (.ret .none)) { s with heap := h', toks := tk }) :
    wpAny (model prog w) A.in1 (Builtin.«list.__init__» ⟨[.ref S, .bytes b t], []⟩)
      (fun fin s' => match fin with | .done f => R (.ok f) s' | .again c' => c'.quiet = true ∧ codeAny (model prog w) A c' R s') (fun e s' => R (.error e) s') s := by
  show wpAny _ _ (do let old ← Builtin.List.listItems (.ref S); Builtin.List.listUpdate (.ref S) (fun _ => #[]); letGo old.toList.reverse; Builtin.List.listExtendWith (.ref S) (.bytes b t) .none) _ _ s
  refine wpAny_bind ?_
  unfold Builtin.List.listItems
  refine wpAny_bind (wpAny_seqItems hS rfl (wpAny_pure ?_))
  show wpAny _ _ (updateSeq S (fun _ => #[]) >>= fun _ => letGo (#[] : Array Value).toList.reverse >>= fun _ => Builtin.List.listExtendWith (.ref S) (.bytes b t) .none) _ _ s
  refine wpAny_bind (wpAny_updateSeq hS rfl ?_)
  have hS₂ := Heap.get?_update_self (Obj.mapSeq (fun _ => (#[] : Array Value))) hS rfl
  have oth : ∀ b o, b ≠ S → s.heap.get? b = some o → (s.heap.update S (Obj.mapSeq (fun _ => (#[] : Array Value)))).get? b = some o :=
    fun b o hb e => (Heap.get?_update_other _ _ (Ne.symm hb)).trans e
  refine wpAny_bind (wpAny_letGo ?_)
  refine ext_bytes hh b t S .none _ hS₂ hn fun h' tk acc' c' hk hS' hacc => ?_
  exact hR h' tk acc' c' (fun b o hb e => hk b o hb (oth b o hb e)) hS' hacc
theorem ints_of_get : ∀ (vs : List Value) (ns : List Int), vs.length = ns.length → (∀ (j : Nat) v, vs[j]? = some v → ∃ n t, ns[j]? = some n ∧ v = Value.int n t) → IntsAre vs ns
  | [], [], _, _ => .nil
  | [], _ :: _, e, _ => by simp at e
  | _ :: _, [], e, _ => by simp at e
  | v :: vs, n :: ns, e, h => by
    obtain ⟨n', t, e1, e2⟩ := h 0 v rfl
    simp at e1
    subst e1; subst e2
    exact .cons _ _ (ints_of_get vs ns (by simpa using e) fun j v hv => by simpa using h (j + 1) v (by simpa using hv))
theorem list_bytes {Q : Value → Shared → Prop} {h₀ : Heap} {L : Addr} {m : Str → Option Value} {news : List (Addr × Obj)} (hh : A.handled = none) {b : Array UInt8} {t : Tok} (hn : b.size ≤ sizeLine) (Fh : Fr h₀ L s.heap m) (N : News h₀ L s.heap news)
    (hQ : ∀ h' tk D ys c, Fr h₀ L h' m → News h₀ L h' ((D, listOf (List.toArray ys) c) :: news) → (∀ p ∈ news, @LT.lt Nat _ p.1 D) → IntsAre ys (KBw.bInts b) → Q (.ref D) { s with heap := h', toks := tk }) :
    wpAny (model prog w) A (call (.type "list") [.bytes b t]) Q E s := by
  refine callType_codes (Q₁ := fun obj s₁ => obj = .ref s.heap.objs.size ∧ s₁ = { s with heap := s.heap.push { cls := .type "list", data := .seq #[] } }) F.called_list (F.typeCall_list_1 _) F.entry_list_init
    (code_list_new _ ⟨rfl, rfl⟩) fun obj s₁ h₁ => ?_
  obtain ⟨rfl, rfl⟩ := h₁
  have hS : (s.heap.push { cls := .type "list", data := .seq #[] }).get? s.heap.objs.size = some { cls := .type "list", data := .seq #[] } := Heap.get?_push_size _ rfl
  refine ⟨⟨_, hS, rfl⟩, F.args_list_init_2 _ _, init_bytes (A := A.in1) hh b t _ hS hn fun h' tk acc' c' hk hS' hacc => ?_⟩
  have hk' : ∀ b o, s.heap.get? b = some o → h'.get? b = some o := fun b o e => hk b o (Nat.ne_of_lt (Heap.lt_size e)) (Heap.get?_push_of_some _ e)
  have hlt : ∀ p ∈ news, @LT.lt Nat _ p.1 s.heap.objs.size := fun p hp => Heap.lt_size (N p hp).1
  refine ⟨rfl, hQ h' tk s.heap.objs.size acc'.toList c' (Fh.keeps hk') (List.forall_mem_cons.mpr ⟨⟨?_, Nat.ne_of_gt Fh.ns.lt, next_is_new Fh⟩, fun p hp => ⟨hk' _ _ (N p hp).1, (N p hp).2⟩⟩) hlt ?_⟩
  · simpa using hS'
  · refine ints_of_get _ _ (by rw [Array.length_toList, hacc.1, KBw.ints_length]) fun j v hv => ?_
    obtain ⟨c, u, e1, e2⟩ := hacc.2 j v (by simpa using hv)
    exact ⟨_, u, KBw.ints_get e1, e2⟩
end
end

section
section
variable {prog : Program} {w : World} {A : Around} {E : Value → Shared → Prop} {s : Shared} {env : Env} {h₀ : Heap} {body : List Stmt} {Q : Flow → Shared → Prop}
/-- a for over enumerate(l) -/
theorem for_enum {l : Addr} {vs : List Value} {elts : List Expr} {k0 : Nat} {tpos : Pos} {m₀ : Str → Option Value} {news : List (Addr × Obj)}
    (nx₀ lst : List (Addr × Obj)) (G : Nat → List (Str × Value) → List (Addr × Obj) → Prop) (ps₀ : List (Str × Value)) (stored : List Str) (hh : A.handled = none) (F : Fr h₀ env.locals s.heap m₀) (N : News h₀ env.locals s.heap news) (hsub : ∀ p ∈ nx₀ ++ lst, p ∈ news)
    (hl : (lst = [] ∧ h₀.IsList l vs.toArray) ∨ ∃ n, lst = [(l, listOf vs.toArray n)]) (hnl : ∀ p ∈ nx₀, p.1 ≠ l) (hg : G 0 ps₀ nx₀) (hps : ∀ p ∈ ps₀, m₀ p.1 = some p.2)
    (turn : ∀ i v t T ps (u : Str → Option Value) nx h tk own, vs[i]? = some v → (∀ p ∈ lst, p ∈ own) → OwnOff own (nx.map (·.1)) → G i ps nx → Fr h₀ env.locals h (kstB (fun z => if stored.contains z then u z else m₀ z) ps) → News h₀ env.locals h (nx ++ own) → IsTup h T #[.int (i : Int) t, v] →
      wpAny (model prog w) A (assign (.Tuple elts k0 tpos) env (.ref T)) (fun _ s₂ => wpAny (model prog w) A (execs body env) (InvPostG h₀ env.locals (StJ G stored m₀ (i + 1)) own { s with heap := h, toks := tk } Q) E s₂) E { s with heap := h, toks := tk })
    (done : ∀ ps (u : Str → Option Value) nx h tk, G vs.length ps nx → (∀ p ∈ nx, p.1 ≠ l) → Fr h₀ env.locals h (kstB (fun z => if stored.contains z then u z else m₀ z) ps) → News h₀ env.locals h (nx ++ lst) → Q .next { s with heap := h, toks := tk })
    (hE : PassesOwn (model prog w) A env E := by passes_own) :
    wpAny (model prog w) A (call (.type "enumerate") [.ref l]) (fun xv s₁ => ForAt prog w A env (.Tuple elts k0 tpos) body Q E xv s₁) E s := by
  have hls : s.heap.IsList l vs.toArray := by
    rcases hl with ⟨_, hl⟩ | ⟨n, e⟩
    · exact hl.at fun o e => F.keep l o e
    · exact ⟨_, (N _ (hsub (l, listOf vs.toArray n) (by rw [e]; exact List.mem_append.mpr (.inr (.head _))))).1, rfl, n, rfl⟩
  have hlt : l < s.heap.objs.size := by obtain ⟨o, e, _⟩ := hls; exact Heap.lt_size e
  have hLl : env.locals ≠ l := by
    rcases hl with ⟨_, hl⟩ | ⟨n, e⟩
    · obtain ⟨o, e, _⟩ := hl
      exact Nat.ne_of_gt (Nat.lt_of_lt_of_le (Heap.lt_size e) F.above)
    · exact Ne.symm (N _ (hsub (l, listOf vs.toArray n) (by rw [e]; exact List.mem_append.mpr (.inr (.head _))))).2.1
  have hL := F.ns.lt
  have hab := F.above
  refine call_enumerate_list hls fun h' he hit hsz hk => ?_
  have F₁ : Fr h₀ env.locals h' m₀ := F.keeps hk
  have N₁ : News h₀ env.locals h' news := fun p hp => ⟨hk _ _ (N p hp).1, (N p hp).2⟩
  have hup : ∀ p ∈ news, p.1 < s.heap.objs.size := fun p hp => Heap.lt_size (N p hp).1
  refine for_stT (s := { s with heap := h' }) nx₀ lst G ps₀ stored (WalksT.enumerate hh (s.heap.objs.size + 1) s.heap.objs.size l (Nat.succ_ne_self _) (Nat.ne_of_lt (Nat.lt_succ_of_lt hlt)) (Nat.ne_of_lt hlt) vs.toArray) ⟨⟨_, by simpa using he⟩, hit, hls.at fun o e => hk l o e⟩ F₁ N₁ hsub ?_ enum_alive ?_ ?_ ?_ hg hps ?_ ?_ hE
  · intro hm
    simp only [List.mem_cons, List.not_mem_nil, or_false] at hm
    rcases hm with e | e | e
    · exact absurd e (Nat.ne_of_lt (Nat.lt_succ_of_lt hL))
    · exact absurd e (Nat.ne_of_lt hL)
    · exact hLl e
  · intro b hb
    simp only [List.mem_cons, List.not_mem_nil, or_false] at hb
    rcases hb with rfl | rfl
    · exact Heap.get?_none_of_le (Nat.le_trans hab (Nat.le_of_lt (Nat.lt_succ_of_lt hL)))
    · exact Heap.get?_none_of_le (Nat.le_trans hab (Nat.le_of_lt hL))
  · intro p hp hm
    have h1 := hup p (hsub p (List.mem_append.mpr (.inl hp)))
    simp only [List.mem_cons, List.not_mem_nil, or_false] at hm
    rcases hm with e | e | e
    · exact absurd e (Nat.ne_of_lt (Nat.lt_succ_of_lt h1))
    · exact absurd e (Nat.ne_of_lt h1)
    · exact hnl p hp e
  · intro p hp
    rcases hl with ⟨e, _⟩ | ⟨n, e⟩
    · rw [e] at hp; cases hp
    · rw [e] at hp
      rw [List.mem_singleton.mp hp]
      refine ⟨by simp, fun hm => ?_⟩
      simp only [List.mem_cons, List.not_mem_nil, or_false] at hm
      rcases hm with e | e
      · exact absurd e (Nat.ne_of_lt (Nat.lt_succ_of_lt hlt))
      · exact absurd e (Nat.ne_of_lt hlt)
  · rintro i T vals ps u nx h tk own hi ⟨t, x, hx, rfl⟩ hlo hof hG F₂ N₂ hT
    exact turn i x t T ps u nx h tk own (by simpa using hx) hlo hof hG F₂ N₂ hT
  · rintro ps u nx h tk hG hnf F₂ N₂
    exact done ps u nx h tk (by simpa using hG) (fun p hp e => hnf p hp (by simp [e])) F₂ N₂
end
theorem allLt_mk {D : Addr} : ∀ {l : List (Addr × Obj)}, (∀ p ∈ l, @LT.lt Nat _ p.1 D) → AllLt D l
  | [], _ => trivial
  | p :: _, h => ⟨h p (.head _), allLt_mk fun q hq => h q (.tail _ hq)⟩
/-- the sum of two lists -/
theorem add_to {prog : Program} {w : World} {A : Around} {E : Value → Shared → Prop} {s : Shared} {h₀ : Heap} {L : Addr} {m : Str → Option Value} {news : List (Addr × Obj)} {l b : Addr} {xs ys : List Value} {Q : Value → Shared → Prop} (F : Fr h₀ L s.heap m) (N : News h₀ L s.heap news) (hl : s.heap.IsList l xs.toArray) (hb : s.heap.IsList b ys.toArray) (hsz : xs.length + ys.length ≤ sizeLine)
    (h : ∀ h' D, Fr h₀ L h' m → News h₀ L h' ((D, listOf (List.toArray (xs ++ ys)) 0) :: news) → (∀ p ∈ news, @LT.lt Nat _ p.1 D) → Q (.ref D) { s with heap := h' }) :
    wpAny (model prog w) A (binaryOp .Add (.ref l) (.ref b)) Q E s :=
  add_arrays (hsz := by simpa using hsz) F N hl hb fun h' F' N' => h h' _ F' (by simpa using N') fun p hp => Heap.lt_size (N p hp).1
theorem isList_at {h₀ h : Heap} {L : Addr} {m : Str → Option Value} {l : Addr} {its : Array Value} (F : Fr h₀ L h m) (x : h₀.IsList l its) : h.IsList l its := x.at fun o e => F.keep l o e
theorem news_ne {h₀ h : Heap} {L : Addr} {news : List (Addr × Obj)} {l : Addr} {its : Array Value} (N : News h₀ L h news) (x : h₀.IsList l its) : ∀ p ∈ news, p.1 ≠ l := fun p hp e => by
  obtain ⟨o, ho, _⟩ := x
  have := (N p hp).2.2
  rw [e, ho] at this
  cases this
theorem repl_bool {α : Type} (k : Int) (x : α) (hk : 0 ≤ k) (l : List α) (e : l = (List.replicate (if decide ((0 : Int) < k) = true then (1 : Int) else 0).toNat [x]).flatten) : l = if k = 0 then [] else [x] := by
  rw [e]
  by_cases h : k = 0
  · rw [if_neg (by simp; omega), if_pos h]; rfl
  · rw [if_pos (by simp; omega), if_neg h]; rfl
section
variable {prog : Program} {w : World} {A : Around} {E : Value → Shared → Prop} {s : Shared} {h₀ : Heap} {L : Addr} {m : Str → Option Value} {env : Env}
/-- a comprehension over a list, what it makes told by R -/
theorem comp_listR {elt : Expr} {x : Str} {scope : Scope} {cl : List (Str × Addr)} {Fin : Shared → List Value → List (Addr × Obj) → Prop} {ax : Addr} {vs : List Value} {news : List (Addr × Obj)} (R : Nat → List (Addr × Obj) → List Value → Prop)
    (hh : A.handled = none) (F : Fr h₀ L s.heap m) (N : News h₀ L s.heap news) (S : LCg.SrcAt h₀ ax vs.toArray news) (hsz : vs.length ≤ sizeLine) (hR0 : R 0 [] [])
    (step : ∀ i v ys tl I oI C oC D m₂ h tk (E' : Value → Shared → Prop), vs[i]? = some v → R i tl ys → LCg.NsObj oC m₂ → m₂ x = some v → Fr h₀ L h m → News h₀ L h ((I, oI) :: (C, oC) :: (D, LCg.lst ys) :: (tl ++ news)) → LCg.Off3 I C D (tl ++ news) → ((@Ne Nat I C) ∧ (@Ne Nat I D) ∧ (@Ne Nat C D)) →
      wpAny (model prog w) A (eval elt (compEnvC scope cl C env)) (LCg.CompEnd h₀ L m { s with heap := h, toks := tk } I oI C oC D (LCg.lst ys) (LCg.SrcAt h₀ ax vs.toArray) (fun y nx' => ∃ tl', nx' = tl' ++ news ∧ R (i + 1) tl' (ys ++ [y]))) E' { s with heap := h, toks := tk })
    (fin : ∀ g tl ys, R vs.length tl ys → Fin { s with heap := g } ys (tl ++ news)) :
    CS (LCg.CompSrc prog w A h₀ L m env elt x scope cl Fin) (.ref ax) s := by
  refine .inl ⟨ax, vs.toArray, news, rfl, hh, F, N, S, by simpa using hsz, ?_⟩
  rintro s₂ ⟨g, rfl⟩
  refine compRest_inv (fun i ys nx => ∃ tl, nx = tl ++ news ∧ R i tl ys) ?_ ?_ _ 0 [] news (by rw [Nat.zero_add]) ⟨[], rfl, hR0⟩
  · rintro i v ys nx I oI C oC D m₂ h tk E' hi hP ⟨tl, rfl, hR⟩ hC hx F N off ne
    exact step i v ys tl I oI C oC D m₂ h tk E' (by simpa using hP) hR hC hx F N off ne
  · rintro ys nx ⟨tl, rfl, hR⟩
    exact fin g tl ys (by simpa using hR)
end
/-- a comprehension's turn that has called; what it makes told by R -/
theorem compEnd_callR {h₀ : Heap} {L I C D : Addr} {m : Str → Option Value} {s₁ : Shared} {oI oC oD : Obj} {S : List (Addr × Obj) → Prop} {y : Value} {h' : Heap} {tk : Nat} {tl tl2 news : List (Addr × Obj)} {ys : List Value} {R : Nat → List (Addr × Obj) → List Value → Prop} {i : Nat}
    (F : Fr h₀ L h' m) (N : News h₀ L h' ((I, oI) :: (C, oC) :: (D, oD) :: (tl ++ news) ++ tl2)) (off : LCg.Off3 I C D (tl ++ news)) (of : OwnOff tl2 (((I, oI) :: (C, oC) :: (D, oD) :: (tl ++ news)).map (·.1)))
    (hS : ∀ l, (∀ p ∈ news, p ∈ l) → S l) (hR : R i (tl ++ tl2) (ys ++ [y])) :
    LCg.CompEnd h₀ L m s₁ I oI C oC D oD S (fun y nx' => ∃ tl', nx' = tl' ++ news ∧ R i tl' (ys ++ [y])) y { s₁ with heap := h', toks := tk } := by
  refine LCg.CompEnd.intro F N ((tl ++ tl2) ++ news) (fun p hp => ?_) (off3_mk fun p hp => ?_) (hS _ fun p hp => List.mem_append.mpr (.inr hp)) ⟨tl ++ tl2, rfl, hR⟩
  · simp only [List.mem_cons, List.mem_append] at hp ⊢
    rcases hp with hp | hp | hp | (hp | hp) | hp
    · exact .inl (.inl hp)
    · exact .inl (.inr (.inl hp))
    · exact .inl (.inr (.inr (.inl hp)))
    · exact .inl (.inr (.inr (.inr (.inl hp))))
    · exact .inr hp
    · exact .inl (.inr (.inr (.inr (.inr hp))))
  · rcases List.mem_append.mp hp with hp | hp
    · rcases List.mem_append.mp hp with hp | hp
      · exact off.mem p (List.mem_append.mpr (.inl hp))
      · exact ⟨of p hp _ (.head _), of p hp _ (.tail _ (.head _)), of p hp _ (.tail _ (.tail _ (.head _)))⟩
    · exact off.mem p (List.mem_append.mpr (.inr hp))
/-- lists of lists of lists of ints, each with its entry -/
def LotsAre (Ls : List (List (List Int))) (i : Nat) (tl : List (Addr × Obj)) (ys : List Value) : Prop := ys.length = i ∧ ∀ (j : Nat) v, ys[j]? = some v → ∃ L, Ls[j]? = some L ∧ RLL tl v L
theorem LotsAre.zero (Ls : List (List (List Int))) (tl : List (Addr × Obj)) : LotsAre Ls 0 tl [] := ⟨rfl, fun j v h => by simp at h⟩
theorem LotsAre.mono {Ls : List (List (List Int))} {i : Nat} {tl tl' : List (Addr × Obj)} {ys : List Value} (h : LotsAre Ls i tl ys) (hk : ∀ p ∈ tl, p ∈ tl') : LotsAre Ls i tl' ys := ⟨h.1, fun j v hv => let ⟨L, a, b⟩ := h.2 j v hv; ⟨L, a, b.mono hk⟩⟩
theorem LotsAre.snoc {Ls : List (List (List Int))} {i : Nat} {tl tl2 : List (Addr × Obj)} {ys : List Value} {y : Value} {L : List (List Int)} (h : LotsAre Ls i tl ys) (e : Ls[i]? = some L) (r : RLL tl2 y L) : LotsAre Ls (i + 1) (tl ++ tl2) (ys ++ [y]) := by
  refine ⟨by simp [h.1], fun j v hv => ?_⟩
  by_cases hj : j < ys.length
  · rw [List.getElem?_append_left hj] at hv
    obtain ⟨L', a, b⟩ := h.2 j v hv
    exact ⟨L', a, b.mono fun p hp => List.mem_append.mpr (.inl hp)⟩
  · rw [List.getElem?_append_right (by omega)] at hv
    have hj2 : j = i := by
      have := (List.getElem?_eq_some_iff.mp hv).1
      have h1 := h.1
      simp at this; omega
    subst hj2
    rw [h.1, Nat.sub_self] at hv
    obtain rfl : y = v := by simpa using hv
    exact ⟨L, e, r.mono fun p hp => List.mem_append.mpr (.inr hp)⟩
theorem LotsAre.rf {Ls : List (List (List Int))} {tl : List (Addr × Obj)} {ys : List Value} (h : LotsAre Ls Ls.length tl ys) : RfAll tl ys (Ls.map llP) := by
  obtain ⟨h1, h2⟩ := h
  induction Ls generalizing ys with
  | nil => cases ys with
    | nil => exact .nil
    | cons _ _ => simp at h1
  | cons L Ls ih => cases ys with
    | nil => simp at h1
    | cons y ys =>
      obtain ⟨L', a, b⟩ := h2 0 y rfl
      obtain rfl : L = L' := by simpa using a
      exact .cons b.rf (ih (by simpa using h1) fun j v hv => by simpa using h2 (j + 1) v (by simpa using hv))
/-- a piece of code that fills up the list D and goes on -/
def AddPost (P : List Value → Prop) (D : Addr) (rest : List (Addr × Obj)) (h₀ : Heap) (L : Addr) (m : Str → Option Value) (s : Shared) (f : Flow) (s' : Shared) : Prop := f = .next ∧ ∃ us k h' tk, s' = { s with heap := h', toks := tk } ∧ P us ∧ Fr h₀ L h' m ∧ News h₀ L h' ((D, listOf (List.toArray us) k) :: rest)
theorem AddPost.mk {P : List Value → Prop} {D : Addr} {rest all : List (Addr × Obj)} {h₀ : Heap} {L : Addr} {m : Str → Option Value} {s : Shared} {us : List Value} {k : Nat} {h' : Heap} {tk : Nat} (hP : P us) (F : Fr h₀ L h' m) (N : News h₀ L h' all) (hs : ∀ p ∈ (D, listOf (List.toArray us) k) :: rest, p ∈ all) : AddPost P D rest h₀ L m s .next { s with heap := h', toks := tk } :=
  ⟨rfl, us, k, h', tk, rfl, hP, F, fun p hp => N p (hs p hp)⟩
theorem AddPost.mk1 {P : List Value → Prop} {D : Addr} {rest : List (Addr × Obj)} {h₀ : Heap} {L : Addr} {m : Str → Option Value} {s : Shared} {us : List Value} {k : Nat} {h' : Heap} {tk : Nat} (F : Fr h₀ L h' m) (N : News h₀ L h' ((D, listOf (List.toArray us) k) :: rest)) (hP : P us) : AddPost P D rest h₀ L m s .next { s with heap := h', toks := tk } :=
  ⟨rfl, us, k, h', tk, rfl, hP, F, N⟩
theorem cut_add {M : Model} {A : Around} {E : Value → Shared → Prop} {s : Shared} {t : Sem Flow} {Q : Flow → Shared → Prop} {h₀ : Heap} {L : Addr} {m : Str → Option Value} (P : List Value → Prop) (D : Addr) (rest : List (Addr × Obj)) (_F : Fr h₀ L s.heap m)
    (h1 : wpAny M A t (AddPost P D rest h₀ L m s) (fun _ _ => False) s)
    (h2 : ∀ us k h' tk, P us → Fr h₀ L h' m → News h₀ L h' ((D, listOf (List.toArray us) k) :: rest) → Q .next { s with heap := h', toks := tk }) : wpAny M A t Q E s := by
  refine wpAny_mono h1 ?_ fun _ _ h => False.elim h
  rintro f s' ⟨rfl, us, k, h', tk, rfl, hP, F, N⟩
  exact h2 us k h' tk hP F N
theorem ne_nil {prog : Program} {w : World} {A : Around} {E : Value → Shared → Prop} {s : Shared} {a b : Value} {ds : List PyData} {Q : Value → Shared → Prop} (ra : Rd s.heap a (.list ds)) (rb : Rd s.heap b (.list [])) (hd : SeqAt.shaped (.list ds) = true) (hu : A.units + 64 < cLine)
    (h : Q (.bool (!ds.isEmpty)) s) : wpAny (model prog w) A (compareOp .NotEq a b) Q E s := by
  obtain ⟨as, ra⟩ := ra
  obtain ⟨bs, rb⟩ := rb
  refine ne_dataH ra rb hd rfl hu ?_
  have e : (!PyData.eqv (.list ds) (.list [])) = !ds.isEmpty := by cases ds <;> rfl
  rw [e]; exact h
theorem shaped_lll (Ls : List (List (List Int))) : SeqAt.shaped (.list (Ls.map llP)) = true := by
  have hl : ∀ l : List (List Int), (llP l).canLay0 = true ∧ (llP l).depth ≤ 2 := fun l => by
    have h1 := canLay_map lP (fun a => (lP_lay a).1) l
    have h2 := depth_map lP 1 (fun a => (lP_lay a).2) l
    exact ⟨h1, by simp only [llP, PyData.depth]; omega⟩
  have h1 := canLay_map llP (fun a => (hl a).1) Ls
  have h2 := depth_map llP 2 (fun a => (hl a).2) Ls
  exact shaped_mk h1 (by simp only [PyData.depth]; omega)
end

theorem instAt_keeps {h h' : Heap} {x : Addr} {ox : Obj} {C : Addr} {od : Option Obj} (I : InstAt h x ox C od) (hk : ∀ b o, h.get? b = some o → h'.get? b = some o) : InstAt h' x ox C od := by
  obtain ⟨a, b, c, d⟩ := I
  refine ⟨hk _ _ a, b, c, ?_⟩
  revert d
  cases od <;> cases ox.dict <;> simp_all
local macro_rules | `(tactic| walk_at "MY for") => `(tactic| (k_here; (rename Fr _ _ _ _ => lF'); (with_unfolding_all refine for_any lF' ?_)))
local macro_rules | `(tactic| walk_at "exec For Name Subscript cons nil") => `(tactic| walk_at "MY for")
local macro_rules | `(tactic| walk_at "exec For Tuple Name cons nil") => `(tactic| walk_at "MY for")
local macro_rules | `(tactic| walk_at "exec For Tuple Call cons nil") => `(tactic| walk_at "MY for")
local macro_rules | `(tactic| walk_at "exec For Name Name cons nil") => `(tactic| walk_at "MY for")
local macro_rules | `(tactic| walk_at "exec For Name Call cons nil") => `(tactic| walk_at "MY for")
local macro_rules | `(tactic| k_all) => `(tactic| assumption)
local macro_rules | `(tactic| k_mem) => `(tactic| first | exact List.Mem.head _ | (refine' List.mem_cons_of_mem _ ?_; k_mem) | (refine' List.mem_append.mpr (Or.inl ?_); k_mem) | (refine' List.mem_append.mpr (Or.inr ?_); k_mem) | assumption)
local macro_rules | `(tactic| walk_at "getAttr ref") => `(tactic| (k_here; k_dflt (refine' get_own ?k1 ?k2 ?k3 ?k4 ?k5 ?k6 ?k7 ?k8 ?k9 ?_; (case k1 => k_asm); (case k2 => k_asm); (case k3 => exact instAt_keeps (by assumption) (Fr.keep (by k_asm))); (case k4 => k_is); (case k5 => k_is); (case k6 => k_is); (case k7 => k_is); (case k8 => assumption); (case k9 => first | assumption | k_handed); k_whole)))
local macro_rules | `(tactic| walk_at "MY cst") => `(tactic| ((case a3 => with_unfolding_all rfl); (case a4 => decide); (case a5 => rfl); (case a6 => decide); (case a7 => rfl)))
local macro_rules | `(tactic| walk_at "eval ListComp") => `(tactic| (k_here; k_dflt ((first | ((with_reducible show wpAny _ _ (eval (Expr.ListComp _ [⟨_, _, [], _⟩] _ _) _) _ _ _); (refine' cs_U (F₀ := by k_asm) ?a3 ?a4 ?a5 ?a6 ?a7 ?_)) | ((with_reducible show wpAny _ _ (eval (Expr.ListComp _ [⟨_, _, [_], _⟩] _ _) _) _ _ _); (refine' cs_T (F₀ := by k_asm) ?a3 ?a4 ?a5 ?a6 ?a7 ?_))); walk_at "MY cst")))
local macro_rules | `(tactic| walk_at "exec Assign cons ListComp") => `(tactic| (k_here; k_dflt ((first | ((with_reducible show wpAny _ _ (exec (Stmt.Assign _ (Expr.ListComp _ [⟨_, _, [], _⟩] _ _) _) _) _ _ _); (refine' cs_AU (F₀ := by k_asm) ?a1 ?a2 ?a3 ?a4 ?a5 ?a6 ?a7 ?a8 ?a9 ?_)) | ((with_reducible show wpAny _ _ (exec (Stmt.Assign _ (Expr.ListComp _ [⟨_, _, [_], _⟩] _ _) _) _) _ _ _); (refine' cs_AT (F₀ := by k_asm) ?a1 ?a2 ?a3 ?a4 ?a5 ?a6 ?a7 ?a8 ?a9 ?_))); (case a1 => exact rfl); (case a2 => with_unfolding_all rfl); (case a3 => with_unfolding_all rfl); (case a4 => decide); (case a5 => rfl); (case a6 => decide); (case a7 => rfl); (case a8 => rfl); (case a9 => rfl))))
local macro_rules | `(tactic| walk_at "MY tup") => `(tactic| (k_here; k_dflt ((first | ((with_reducible show wpAny _ _ (subscriptTail _ _ (Value.ref _) (Value.int 0 _)) _ _ _); refine' tup4_0 ?t ?_ ?hs) | ((with_reducible show wpAny _ _ (subscriptTail _ _ (Value.ref _) (Value.int 1 _)) _ _ _); refine' tup4_1 ?t ?_ ?hs) | ((with_reducible show wpAny _ _ (subscriptTail _ _ (Value.ref _) (Value.int 2 _)) _ _ _); refine' tup4_2 ?t ?_ ?hs) | ((with_reducible show wpAny _ _ (subscriptTail _ _ (Value.ref _) (Value.int 3 _)) _ _ _); refine' tup4_3 ?t ?_ ?hs)); (case t => with_reducible assumption); (case hs => with_unfolding_all rfl); k_whole)))
local macro_rules | `(tactic| walk_at "subscriptTail Name Constant ref int") => `(tactic| walk_at "MY tup")
local macro_rules | `(tactic| walk_at "subscriptTail Name Name ref int") => `(tactic| walk_at "MY tup")
local macro_rules | `(tactic| walk_at "MY in") => `(tactic| with_reducible first | exact sub_head | (refine sub_next ?_; walk_at "MY in") | (refine sub_left ?_; walk_at "MY in") | (refine sub_right ?_; walk_at "MY in") | assumption)
local macro_rules | `(tactic| walk_at "MY subA") => `(tactic| with_reducible first | exact sub_id | (refine sub_tail ?_; walk_at "MY subA") | (refine sub_l ?_; walk_at "MY subA") | (refine sub_r ?_; walk_at "MY subA") | assumption)
local macro_rules | `(tactic| walk_at "MY subB") => `(tactic| with_reducible first | exact sub_nil | (refine sub_cons ?_ ?_; (walk_at "MY in"); (walk_at "MY subB")) | (refine sub_app ?_ ?_; (walk_at "MY subB"); (walk_at "MY subB")) | (walk_at "MY subA"))
local macro_rules | `(tactic| walk_at "MY nm") => `(tactic| first | exact List.Mem.head _ | (refine List.Mem.tail _ ?_; walk_at "MY nm"))
local macro_rules | `(tactic| walk_at "callWith") => `(tactic| ((with_reducible show wpAny _ _ (callWith _ (Value.builtin _) [_] (backTo _ (starEach (_ :: _) _)) []) _ _ _); refine callWith_method1 ?_))
local macro_rules | `(tactic| walk_at "storeName") => `(tactic| (k_here; k_dflt (refine' storeX_LL ?F ?N ?_ ?a ?b; (case F => k_asm); (case N => k_asm); (case a => rfl); (case b => rfl); k_whole; intro h' tk' mk F' N'; (try k_sweep))))

section
theorem top_off_C1 : True := by
  w_top off
  exact trivial
def blkStep (top : Int) (st : Bool × List Row) (e : Elem) : Bool × List Row :=
  let b := if e.1 ≠ 0 then e.2.2.2 else st.1
  (b, st.2 ++ [if (e.1 ≠ 0 ∧ e.2.2.2 = true) ∨ (e.1 = 0 ∧ st.1 = true) ∨ (e.2.1 = 0 ∧ e.2.2.1 = 0 ∧ e.1 = 0) then (0, 0, 0, 0) else (e.1, e.2.1, e.2.2.1, top)])
def blanked (top : Int) (es : List Elem) : List Row := (es.foldl (blkStep top) (false, [])).2
theorem blk_len (top : Int) : ∀ (es : List Elem) (st : Bool × List Row), (es.foldl (blkStep top) st).2.length = st.2.length + es.length
  | [], st => by simp
  | e :: es, st => by rw [List.foldl_cons, blk_len top es]; simp [blkStep]; omega
set_option maxHeartbeats 16000000 in
theorem con_blanked (es : List Elem) (top : Int) (hes : es.length ≤ 100) : Con 44 1 (fun h vs => ∃ v t, vs = [v, .int top t] ∧ Rd h v (.list (es.map eP))) (fun tl r => RL tl r ((blanked top es).map rP)) := by
  unfold Con; k_fill
  intro w mean mg mb dp un gd cn cs a ccd cl outer A₀ base h₀ L m news s vs Q E B F X N T hk hP hd hu hret
  obtain ⟨v0, t0, rfl, hP⟩ := hP
  refine wpAny_call ?_
  k_dflt (refine' code_defB (binds := [((Str.ofString "elements"), v0), ((Str.ofString "top"), .int top t0)]) ?k1 ?k2 ?k3 ?k5 ?kA ?kF ?kK ?k6 ?k7 ?k8 ?k9 ?kB ?_ ?c2 ?c3 ?c4 ?c5; (case kA => exact rfl); (case kF => exact rfl); (case kK => assumption); (case k1 => k_asm); (case k2 => k_asm); (case k3 => k_asm); (case k5 => k_asm); (case k6 => k_is); (case k7 => k_is); (case k8 => first | exact room_0 hd | (dsimp only [ktrTop]; omega)); (case k9 => first | exact BindsTo.of_eq rfl | exact binds_K (by k_in) rfl (by k_is) rfl rfl rfl); (case c5 => decide); (case kB => exact locs rfl); (case c2 => exact rfl); (case c3 => exact rfl); (case c4 => exact rfl); k_whole)
  intro g L' h₁ eg F' N' B' X' T'
  refine wpAny_mono (E := fun _ _ => False) (Q := fun fl s' => RetB g L' s (fun tl r => RL tl r ((blanked top es).map rP)) (match fl with | .ret v => v | _ => .none) s') ?_ (fun fl s' h => RetB.back eg F N hret h) (fun _ _ h => False.elim h)
  clear hret F N X T B
  dsimp only [List.reverse_cons, List.reverse_nil, List.nil_append, List.cons_append, List.reverse, List.reverseAux] at F'
  (try rw [← eg] at hP); clear eg
  obtain ⟨l, vs, rfl, hl, hlen, hget⟩ := rd_list hP
  clear hP
  (try k_fold)
  k_steps
  (rename Fr _ _ _ _ => lF); (rename News _ _ _ _ => lN)
  with_unfolding_all refine for_build [] (fun i => (es.take i).foldl (blkStep top) (false, [])) (fun st => st.2.map rP) (fun st => [((Str.ofString "is_behind"), .bool st.1)]) (Str.ofString "found") [(Str.ofString "first"), (Str.ofString "second"), (Str.ofString "third"), (Str.ofString "is_variable")] rfl lF lN rfl (by kst_in) (List.forall_mem_nil _) (isList_in hl) rfl (by kst_all) ?_ ?_
  · clear lF lN
    intro i v u vs' n tl rest h tk own hv hR htl ho hlo hrD hof F₁ N₁
    change Fr g L' h _ at F₁; change News g L' h _ at N₁
    obtain ⟨d, hd1, hd2⟩ := hget i v hv
    obtain ⟨e, he, rfl⟩ : ∃ e, es[i]? = some e ∧ eP e = d := by simpa using hd1
    obtain ⟨ax, t1, t2, t3, rfl, hT⟩ := rd_elem hd2
    clear hd1 hd2 hget hl hlen
    have hT' : IsTup h ax _ := hT.keeps F₁.keep
    have hsz : vs'.size ≤ 100 := by
      have h1 := hR.length
      rw [List.length_map, blk_len, List.length_take] at h1
      simp only [Array.length_toList, List.length_nil] at h1
      omega
    obtain ⟨p, q, r, x⟩ := e
    have hs1 := take_succ_fold (blkStep top) (false, []) _ _ _ he
    generalize hst : (es.take i).foldl (blkStep top) (false, []) = st at *
    obtain ⟨b, fs⟩ := st
    dsimp only at F₁ hT hT' hR
    clear hT hv hlo
    (with_reducible show wpAny _ _ _ _ _ _); (try k_fold)
    (repeat' ((((fail_if_success (with_reducible show wpAny _ _ (isTrue (Expr.BoolOp _ _ _) _ _) _ _ _)); (((fail_if_success (with_reducible show wpAny _ _ (call (Value.ref _) _) _ _ _)); (fail_if_success (with_reducible show wpAny _ _ (exec (Stmt.While _ _ _ _) _) _ _ _)))))); (first | (k_unfold; (try dsimp only)) | (k_end; wrow_close) | walk1 | (dsimp only; walk1) | (leave1; walk_say "STEP leave1"; try dsimp only) | fail "no step")))
    all_goals (
      refine cut_test ((p ≠ 0 ∧ x = true) ∨ (p = 0 ∧ b = true) ∨ (q = 0 ∧ r = 0 ∧ p = 0)) ?_ ?_ ?_
      · k_steps
        all_goals ((((repeat (rename Fr _ _ _ _ => x9; clear x9)); (repeat (rename News _ _ _ _ => x9; clear x9)); (repeat (rename RfAll _ _ _ => x9; clear x9)); (repeat (rename IsTup _ _ _ => x9; clear x9)); (repeat (rename Below _ _ _ _ => x9; clear x9)); (repeat (rename Top _ _ _ _ _ _ => x9; clear x9)); (repeat (rename Frag.In _ _ => x9; clear x9)))); simp_all; done)
      all_goals (
        intro tk9 hC
        simp only [if_true, Bool.false_eq_true, if_false]
        k_steps
        (rename Fr _ _ _ _ => F9); (rename News _ _ _ _ => N9); (rename _ ∧ AllLt _ _ => l9)
        have hs2 : ((es.take (i+1)).foldl (blkStep top) (false, [])) = _ := hs1
        dsimp only [blkStep] at hs2
        first | rw [if_pos hC] at hs2 | rw [if_neg hC] at hs2
        with_unfolding_all refine build_end1 (by rw [hst]; exact hR) htl ho hrD hof F9 N9 l9 (Rf.tuple (.head _) (.cons .int (.cons .int (.cons .int (.cons .int .nil))))) ?_ ?_ ?_
        · rw [hs2, hst]; simp only [List.map_append, List.map_cons, List.map_nil]; rfl
        · rw [hs2]; first | (rw [if_pos (by omega)]; kst_all) | (rw [if_neg (by omega)]; kst_all)
        · (first | (intro z h2 h3; (try dsimp only at h2); (repeat (first | exact skc h3 | (with_reducible exact rfl) | (refine sk (ne_in h3 (by with_reducible first | exact nm_head | exact nm_tail nm_head | exact nm_tail (nm_tail nm_head) | exact nm_tail (nm_tail (nm_tail nm_head)) | exact nm_tail (nm_tail (nm_tail (nm_tail nm_head))) | exact nm_tail (nm_tail (nm_tail (nm_tail (nm_tail nm_head)))) | exact nm_tail (nm_tail (nm_tail (nm_tail (nm_tail (nm_tail nm_head))))) | exact nm_tail (nm_tail (nm_tail (nm_tail (nm_tail (nm_tail (nm_tail nm_head)))))) | exact nm_tail (nm_tail (nm_tail (nm_tail (nm_tail (nm_tail (nm_tail (nm_tail nm_head))))))))) ?_) | (refine sk (ne_h h2) ?_) | (refine sk (ne_h (ne_t h2)) ?_) | (refine sk (ne_h (ne_t (ne_t h2))) ?_) | fail "no name")); done) | (walk_say "OLDSAME"; (((try dsimp +zetaDelta only); intro z h2 h3; (try simp only [List.forall_mem_cons, List.not_mem_nil, false_implies, implies_true, and_true, ne_eq] at h2); (have h4 := h3); (simp only [List.contains_cons, List.contains_nil, Bool.or_false, Bool.or_eq_false_iff, beq_eq_false_iff_ne, ne_eq] at h3); ((simp only [kstB, h2, h3, h4, if_false, Bool.false_eq_true]) <;> rfl)))))))
  · intro u vs' n tl h tk hR hne F₁ N₁
    clear lF lN
    change Fr g L' h _ at F₁; change News g L' h _ at N₁
    (with_reducible show wpAny _ _ _ _ _ _); (try k_fold)
    k_steps
    (rename Fr _ _ _ _ => F9); (rename News _ _ _ _ => N9)
    have e1 : es.take vs.length = es := by rw [List.take_of_length_le]; rw [hlen, List.length_map]; exact Nat.le_refl _
    rw [e1] at hR
    with_unfolding_all exact RetB.fin F9 N9 _ (fun _ h => h) (RL.mk (.head _) (hR.mono fun p hp => .tail _ (List.mem_append.mpr (.inl hp))))
end

section
theorem top_off_C2 : True := by
  w_top off
  exact trivial
def shfStep (top : Int) (st : Bool × List Row) (e : Elem) : Bool × List Row :=
  let b := if e.1 ≠ 0 then e.2.2.2 else st.1
  (b, st.2 ++ [if e.1 ≠ 0 ∧ e.2.2.2 = true then (0, 0, 0, e.1) else if e.1 = 0 ∧ (st.1 = true ∨ (e.2.1 = 0 ∧ e.2.2.1 = 0)) then (0, 0, 0, 0) else (e.1, e.2.1, e.2.2.1, top)])
def shifted (top : Int) (es : List Elem) : List Row := (es.foldl (shfStep top) (false, [])).2
theorem shf_len (top : Int) : ∀ (es : List Elem) (st : Bool × List Row), (es.foldl (shfStep top) st).2.length = st.2.length + es.length
  | [], st => by simp
  | e :: es, st => by rw [List.foldl_cons, shf_len top es]; simp [shfStep]; omega
set_option maxHeartbeats 16000000 in
theorem con_shifted (es : List Elem) (top : Int) (hes : es.length ≤ 100) : Con 51 1 (fun h vs => ∃ v t, vs = [v, .int top t] ∧ Rd h v (.list (es.map eP))) (fun tl r => RL tl r ((shifted top es).map rP)) := by
  unfold Con; k_fill
  intro w mean mg mb dp un gd cn cs a ccd cl outer A₀ base h₀ L m news s vs Q E B F X N T hk hP hd hu hret
  obtain ⟨v0, t0, rfl, hP⟩ := hP
  refine wpAny_call ?_
  k_dflt (refine' code_defB (binds := [((Str.ofString "elements"), v0), ((Str.ofString "top"), .int top t0)]) ?k1 ?k2 ?k3 ?k5 ?kA ?kF ?kK ?k6 ?k7 ?k8 ?k9 ?kB ?_ ?c2 ?c3 ?c4 ?c5; (case kA => exact rfl); (case kF => exact rfl); (case kK => assumption); (case k1 => k_asm); (case k2 => k_asm); (case k3 => k_asm); (case k5 => k_asm); (case k6 => k_is); (case k7 => k_is); (case k8 => first | exact room_0 hd | (dsimp only [ktrTop]; omega)); (case k9 => first | exact BindsTo.of_eq rfl | exact binds_K (by k_in) rfl (by k_is) rfl rfl rfl); (case c5 => decide); (case kB => exact locs rfl); (case c2 => exact rfl); (case c3 => exact rfl); (case c4 => exact rfl); k_whole)
  intro g L' h₁ eg F' N' B' X' T'
  refine wpAny_mono (E := fun _ _ => False) (Q := fun fl s' => RetB g L' s (fun tl r => RL tl r ((shifted top es).map rP)) (match fl with | .ret v => v | _ => .none) s') ?_ (fun fl s' h => RetB.back eg F N hret h) (fun _ _ h => False.elim h)
  clear hret F N X T B
  dsimp only [List.reverse_cons, List.reverse_nil, List.nil_append, List.cons_append, List.reverse, List.reverseAux] at F'
  (try rw [← eg] at hP); clear eg
  obtain ⟨l, vs, rfl, hl, hlen, hget⟩ := rd_list hP
  clear hP
  (try k_fold)
  k_steps
  (rename Fr _ _ _ _ => lF); (rename News _ _ _ _ => lN)
  with_unfolding_all refine for_build [] (fun i => (es.take i).foldl (shfStep top) (false, [])) (fun st => st.2.map rP) (fun st => [((Str.ofString "is_behind"), .bool st.1)]) (Str.ofString "found") [(Str.ofString "first"), (Str.ofString "second"), (Str.ofString "third"), (Str.ofString "is_variable")] rfl lF lN rfl (by kst_in) (List.forall_mem_nil _) (isList_in hl) rfl (by kst_all) ?_ ?_
  · clear lF lN
    intro i v u vs' n tl rest h tk own hv hR htl ho hlo hrD hof F₁ N₁
    change Fr g L' h _ at F₁; change News g L' h _ at N₁
    obtain ⟨d, hd1, hd2⟩ := hget i v hv
    obtain ⟨e, he, rfl⟩ : ∃ e, es[i]? = some e ∧ eP e = d := by simpa using hd1
    obtain ⟨ax, t1, t2, t3, rfl, hT⟩ := rd_elem hd2
    clear hd1 hd2 hget hl hlen
    have hT' : IsTup h ax _ := hT.keeps F₁.keep
    have hsz : vs'.size ≤ 100 := by
      have h1 := hR.length
      rw [List.length_map, shf_len, List.length_take] at h1
      simp only [Array.length_toList, List.length_nil] at h1
      omega
    obtain ⟨p, q, r, x⟩ := e
    have hs1 := take_succ_fold (shfStep top) (false, []) _ _ _ he
    generalize hst : (es.take i).foldl (shfStep top) (false, []) = st at *
    obtain ⟨b, fs⟩ := st
    dsimp only at F₁ hT hT' hR
    clear hT hv hlo
    (with_reducible show wpAny _ _ _ _ _ _); (try k_fold)
    (repeat' ((((fail_if_success (with_reducible show wpAny _ _ (isTrue (Expr.BoolOp _ _ _) _ _) _ _ _)); (((fail_if_success (with_reducible show wpAny _ _ (call (Value.ref _) _) _ _ _)); (fail_if_success (with_reducible show wpAny _ _ (exec (Stmt.While _ _ _ _) _) _ _ _)))))); (first | (k_unfold; (try dsimp only)) | (k_end; wrow_close) | walk1 | (dsimp only; walk1) | (leave1; walk_say "STEP leave1"; try dsimp only) | fail "no step")))
    all_goals (
      refine cut_test (p ≠ 0 ∧ x = true) ?_ ?_ ?_
      · k_steps
        all_goals ((((repeat (rename Fr _ _ _ _ => x9; clear x9)); (repeat (rename News _ _ _ _ => x9; clear x9)); (repeat (rename RfAll _ _ _ => x9; clear x9)); (repeat (rename IsTup _ _ _ => x9; clear x9)); (repeat (rename Below _ _ _ _ => x9; clear x9)); (repeat (rename Top _ _ _ _ _ _ => x9; clear x9)); (repeat (rename Frag.In _ _ => x9; clear x9)))); simp_all; done)
      · intro tk9 hC
        simp only [if_true, Bool.false_eq_true, if_false]
        k_steps
        (rename Fr _ _ _ _ => F9); (rename News _ _ _ _ => N9); (rename _ ∧ AllLt _ _ => l9)
        have hs2 : ((es.take (i+1)).foldl (shfStep top) (false, [])) = _ := hs1
        dsimp only [shfStep] at hs2
        rw [if_pos hC] at hs2
        with_unfolding_all refine build_end1 (by rw [hst]; exact hR) htl ho hrD hof F9 N9 l9 (Rf.tuple (.head _) (.cons .int (.cons .int (.cons .int (.cons .int .nil))))) ?_ ?_ ?_
        · rw [hs2, hst]; simp only [List.map_append, List.map_cons, List.map_nil]; rfl
        · rw [hs2]; first | (rw [if_pos (by omega)]; kst_all) | (rw [if_neg (by omega)]; kst_all)
        · (first | (intro z h2 h3; (try dsimp only at h2); (repeat (first | exact skc h3 | (with_reducible exact rfl) | (refine sk (ne_in h3 (by with_reducible first | exact nm_head | exact nm_tail nm_head | exact nm_tail (nm_tail nm_head) | exact nm_tail (nm_tail (nm_tail nm_head)) | exact nm_tail (nm_tail (nm_tail (nm_tail nm_head))) | exact nm_tail (nm_tail (nm_tail (nm_tail (nm_tail nm_head)))) | exact nm_tail (nm_tail (nm_tail (nm_tail (nm_tail (nm_tail nm_head))))) | exact nm_tail (nm_tail (nm_tail (nm_tail (nm_tail (nm_tail (nm_tail nm_head)))))) | exact nm_tail (nm_tail (nm_tail (nm_tail (nm_tail (nm_tail (nm_tail (nm_tail nm_head))))))))) ?_) | (refine sk (ne_h h2) ?_) | (refine sk (ne_h (ne_t h2)) ?_) | (refine sk (ne_h (ne_t (ne_t h2))) ?_) | fail "no name")); done) | (walk_say "OLDSAME"; (((try dsimp +zetaDelta only); intro z h2 h3; (try simp only [List.forall_mem_cons, List.not_mem_nil, false_implies, implies_true, and_true, ne_eq] at h2); (have h4 := h3); (simp only [List.contains_cons, List.contains_nil, Bool.or_false, Bool.or_eq_false_iff, beq_eq_false_iff_ne, ne_eq] at h3); ((simp only [kstB, h2, h3, h4, if_false, Bool.false_eq_true]) <;> rfl)))))
      · intro tk9 hC0
        simp only [if_true, Bool.false_eq_true, if_false]
        (repeat' ((((fail_if_success (with_reducible show wpAny _ _ (isTrue (Expr.BoolOp _ _ _) _ _) _ _ _)); (((fail_if_success (with_reducible show wpAny _ _ (call (Value.ref _) _) _ _ _)); (fail_if_success (with_reducible show wpAny _ _ (exec (Stmt.While _ _ _ _) _) _ _ _)))))); (first | (k_unfold; (try dsimp only)) | (k_end; wrow_close) | walk1 | (dsimp only; walk1) | (leave1; walk_say "STEP leave1"; try dsimp only) | fail "no step")))
        refine cut_test (p = 0 ∧ (b = true ∨ (q = 0 ∧ r = 0))) ?_ ?_ ?_
        · k_steps
          all_goals ((((repeat (rename Fr _ _ _ _ => x9; clear x9)); (repeat (rename News _ _ _ _ => x9; clear x9)); (repeat (rename RfAll _ _ _ => x9; clear x9)); (repeat (rename IsTup _ _ _ => x9; clear x9)); (repeat (rename Below _ _ _ _ => x9; clear x9)); (repeat (rename Top _ _ _ _ _ _ => x9; clear x9)); (repeat (rename Frag.In _ _ => x9; clear x9)))); simp_all; done)
        all_goals (
          intro tk9 hC
          simp only [if_true, Bool.false_eq_true, if_false]
          k_steps
          (rename Fr _ _ _ _ => F9); (rename News _ _ _ _ => N9); (rename _ ∧ AllLt _ _ => l9)
          have hs2 : ((es.take (i+1)).foldl (shfStep top) (false, [])) = _ := hs1
          dsimp only [shfStep] at hs2
          rw [if_neg hC0] at hs2
          first | rw [if_pos hC] at hs2 | rw [if_neg hC] at hs2
          with_unfolding_all refine build_end1 (by rw [hst]; exact hR) htl ho hrD hof F9 N9 l9 (Rf.tuple (.head _) (.cons .int (.cons .int (.cons .int (.cons .int .nil))))) ?_ ?_ ?_
          · rw [hs2, hst]; simp only [List.map_append, List.map_cons, List.map_nil]; rfl
          · rw [hs2]; first | (rw [if_pos (by omega)]; kst_all) | (rw [if_neg (by omega)]; kst_all)
          · (first | (intro z h2 h3; (try dsimp only at h2); (repeat (first | exact skc h3 | (with_reducible exact rfl) | (refine sk (ne_in h3 (by with_reducible first | exact nm_head | exact nm_tail nm_head | exact nm_tail (nm_tail nm_head) | exact nm_tail (nm_tail (nm_tail nm_head)) | exact nm_tail (nm_tail (nm_tail (nm_tail nm_head))) | exact nm_tail (nm_tail (nm_tail (nm_tail (nm_tail nm_head)))) | exact nm_tail (nm_tail (nm_tail (nm_tail (nm_tail (nm_tail nm_head))))) | exact nm_tail (nm_tail (nm_tail (nm_tail (nm_tail (nm_tail (nm_tail nm_head)))))) | exact nm_tail (nm_tail (nm_tail (nm_tail (nm_tail (nm_tail (nm_tail (nm_tail nm_head))))))))) ?_) | (refine sk (ne_h h2) ?_) | (refine sk (ne_h (ne_t h2)) ?_) | (refine sk (ne_h (ne_t (ne_t h2))) ?_) | fail "no name")); done) | (walk_say "OLDSAME"; (((try dsimp +zetaDelta only); intro z h2 h3; (try simp only [List.forall_mem_cons, List.not_mem_nil, false_implies, implies_true, and_true, ne_eq] at h2); (have h4 := h3); (simp only [List.contains_cons, List.contains_nil, Bool.or_false, Bool.or_eq_false_iff, beq_eq_false_iff_ne, ne_eq] at h3); ((simp only [kstB, h2, h3, h4, if_false, Bool.false_eq_true]) <;> rfl)))))))
  · intro u vs' n tl h tk hR hne F₁ N₁
    clear lF lN
    change Fr g L' h _ at F₁; change News g L' h _ at N₁
    (with_reducible show wpAny _ _ _ _ _ _); (try k_fold)
    k_steps
    (rename Fr _ _ _ _ => F9); (rename News _ _ _ _ => N9)
    have e1 : es.take vs.length = es := by rw [List.take_of_length_le]; rw [hlen, List.length_map]; exact Nat.le_refl _
    rw [e1] at hR
    with_unfolding_all exact RetB.fin F9 N9 _ (fun _ h => h) (RL.mk (.head _) (hR.mono fun p hp => .tail _ (List.mem_append.mpr (.inl hp))))
end

section
theorem top_off_C3 : True := by
  w_top off
  exact trivial
inductive How where | ni | bl | sh | st
def How.str : How → Str
  | .ni => Str.ofString "non-ignorable"
  | .bl => Str.ofString "blanked"
  | .sh => Str.ofString "shifted"
  | .st => Str.ofString "shift-trimmed"
def niRow (e : Elem) : Row := (e.1, e.2.1, e.2.2.1, if e.1 + e.2.1 + e.2.2.1 > 0 then 65535 else 0)
def weightedS (how : How) (es : List Elem) : List Row := match how with
  | .ni => es.map niRow
  | .bl => blanked 65535 es
  | _ => shifted 65535 es
set_option maxHeartbeats 16000000 in
theorem con_weighted (how : How) (es : List Elem) (hes : es.length ≤ 100) : Con 59 2 (fun h vs => ∃ v t, vs = [v, .str how.str t] ∧ Rd h v (.list (es.map eP))) (fun tl r => RL tl r ((weightedS how es).map rP)) := by
  unfold Con; k_fill
  intro w mean mg mb dp un gd cn cs a ccd cl outer A₀ base h₀ L m news s vs Q E B F X N T hk hP hd hu hret
  obtain ⟨v0, t0, rfl, hP⟩ := hP
  refine wpAny_call ?_
  k_dflt (refine' code_defB (binds := [((Str.ofString "elements"), v0), ((Str.ofString "how"), .str how.str t0), ((Str.ofString "spread"), .int 1 268)]) ?k1 ?k2 ?k3 ?k5 ?kA ?kF ?kK ?k6 ?k7 ?k8 ?k9 ?kB ?_ ?c2 ?c3 ?c4 ?c5; (case kA => exact rfl); (case kF => exact rfl); (case kK => assumption); (case k1 => k_asm); (case k2 => k_asm); (case k3 => k_asm); (case k5 => k_asm); (case k6 => k_is); (case k7 => k_is); (case k8 => first | exact room_0 hd | (dsimp only [ktrTop]; omega)); (case k9 => first | exact BindsTo.of_eq rfl | exact binds_K (by k_in) rfl (by k_is) rfl rfl rfl); (case c5 => decide); (case kB => exact locs rfl); (case c2 => exact rfl); (case c3 => exact rfl); (case c4 => exact rfl); k_whole)
  intro g L' h₁ eg F' N' B' X' T'
  refine wpAny_mono (E := fun _ _ => False) (Q := fun fl s' => RetB g L' s (fun tl r => RL tl r ((weightedS how es).map rP)) (match fl with | .ret v => v | _ => .none) s') ?_ (fun fl s' h => RetB.back eg F N hret h) (fun _ _ h => False.elim h)
  clear hret F N X T B
  dsimp only [List.reverse_cons, List.reverse_nil, List.nil_append, List.cons_append, List.reverse, List.reverseAux] at F'
  (try rw [← eg] at hP); clear eg
  cases how
  · obtain ⟨l, vs, rfl, hl, hlen, hget⟩ := rd_list hP
    clear hP
    dsimp only [How.str] at F'
    (try k_fold)
    k_steps
    (rename Fr _ _ _ _ => lF); (rename News _ _ _ _ => lN)
    with_unfolding_all refine for_build (σ := List Row) [] (fun i => (es.take i).map niRow) (fun st => st.map rP) (fun st => []) (Str.ofString "found") [(Str.ofString "first"), (Str.ofString "second"), (Str.ofString "third"), (Str.ofString "is_variable")] rfl lF lN rfl (by kst_in) (List.forall_mem_nil _) (isList_in hl) rfl (by kst_all) ?_ ?_
    · clear lF lN
      intro i v u vs' n tl rest h tk own hv hR htl ho hlo hrD hof F₁ N₁
      change Fr g L' h _ at F₁; change News g L' h _ at N₁
      obtain ⟨d, hd1, hd2⟩ := hget i v hv
      obtain ⟨e, he, rfl⟩ : ∃ e, es[i]? = some e ∧ eP e = d := by simpa using hd1
      obtain ⟨ax, t1, t2, t3, rfl, hT⟩ := rd_elem hd2
      clear hd1 hd2 hget hl hlen
      have hT' : IsTup h ax _ := hT.keeps F₁.keep
      have hsz : vs'.size ≤ 100 := by
        have h1 := hR.length
        rw [List.length_map, List.length_map, List.length_take] at h1
        simp only [Array.length_toList] at h1
        omega
      obtain ⟨p, q, r, x⟩ := e
      have hs1 : (es.take (i + 1)).map niRow = (es.take i).map niRow ++ [niRow (p, q, r, x)] := by rw [List.take_add_one, he]; simp
      clear hT hv hlo
      dsimp only at hT'
      (with_reducible show wpAny _ _ _ _ _ _); (try k_fold)
      (repeat' ((((fail_if_success (with_reducible show wpAny _ _ (isTrue (Expr.BoolOp _ _ _) _ _) _ _ _)); (((fail_if_success (with_reducible show wpAny _ _ (call (Value.ref _) _) _ _ _)); (fail_if_success (with_reducible show wpAny _ _ (exec (Stmt.While _ _ _ _) _) _ _ _)))))); (first | (k_unfold; (try dsimp only)) | (k_end; wrow_close) | walk1 | (dsimp only; walk1) | (leave1; walk_say "STEP leave1"; try dsimp only) | fail "no step")))
      all_goals (
        (rename Fr _ _ _ _ => F9); (rename News _ _ _ _ => N9); (rename _ ∧ AllLt _ _ => l9)
        with_unfolding_all refine build_end1 hR htl ho hrD hof F9 N9 l9 (Rf.tuple (.head _) (.cons .int (.cons .int (.cons .int (.cons .int .nil))))) ?_ (List.forall_mem_nil _) (by (first | (intro z h2 h3; (try dsimp only at h2); (repeat (first | exact skc h3 | (with_reducible exact rfl) | (refine sk (ne_in h3 (by with_reducible first | exact nm_head | exact nm_tail nm_head | exact nm_tail (nm_tail nm_head) | exact nm_tail (nm_tail (nm_tail nm_head)) | exact nm_tail (nm_tail (nm_tail (nm_tail nm_head))) | exact nm_tail (nm_tail (nm_tail (nm_tail (nm_tail nm_head)))) | exact nm_tail (nm_tail (nm_tail (nm_tail (nm_tail (nm_tail nm_head))))) | exact nm_tail (nm_tail (nm_tail (nm_tail (nm_tail (nm_tail (nm_tail nm_head)))))) | exact nm_tail (nm_tail (nm_tail (nm_tail (nm_tail (nm_tail (nm_tail (nm_tail nm_head))))))))) ?_) | (refine sk (ne_h h2) ?_) | (refine sk (ne_h (ne_t h2)) ?_) | (refine sk (ne_h (ne_t (ne_t h2))) ?_) | fail "no name")); done) | (walk_say "OLDSAME"; (((try dsimp +zetaDelta only); intro z h2 h3; (try simp only [List.forall_mem_cons, List.not_mem_nil, false_implies, implies_true, and_true, ne_eq] at h2); (have h4 := h3); (simp only [List.contains_cons, List.contains_nil, Bool.or_false, Bool.or_eq_false_iff, beq_eq_false_iff_ne, ne_eq] at h3); ((simp only [kstB, h2, h3, h4, if_false, Bool.false_eq_true]) <;> rfl))))))
        rw [hs1, List.map_append]; dsimp only [List.map_cons, List.map_nil, niRow, rP]; first | (rw [if_pos (by omega)]; (try rfl); done) | (rw [if_neg (by omega)]; (try rfl); done))
    · intro u vs' n tl h tk hR hne F₁ N₁
      clear lF lN
      change Fr g L' h _ at F₁; change News g L' h _ at N₁
      (with_reducible show wpAny _ _ _ _ _ _); (try k_fold)
      k_steps
      (rename Fr _ _ _ _ => F9); (rename News _ _ _ _ => N9)
      have e1 : es.take vs.length = es := by rw [List.take_of_length_le]; rw [hlen, List.length_map]; exact Nat.le_refl _
      rw [e1] at hR
      with_unfolding_all exact RetB.fin F9 N9 _ (fun _ h => h) (RL.mk (.head _) (hR.mono fun p hp => .tail _ (List.mem_append.mpr (.inl hp))))
  · dsimp only [How.str] at F'
    (try k_fold)
    (repeat' ((((fail_if_success (with_reducible show wpAny _ _ (isTrue (Expr.BoolOp _ _ _) _ _) _ _ _)); (((fail_if_success (with_reducible show wpAny _ _ (call (Value.ref _) _) _ _ _)); (fail_if_success (with_reducible show wpAny _ _ (exec (Stmt.While _ _ _ _) _) _ _ _)))))); (first | (k_unfold; (try dsimp only)) | (k_end; wrow_close) | walk1 | (dsimp only; walk1) | (leave1; walk_say "STEP leave1"; try dsimp only) | fail "no step")))
    with_unfolding_all refine' Con.use (con_blanked es 65535 hes) ?k1 ?k2 ?k3 ?k4 ?k5 ?kK ?kP ?kd ?ku ?_
    (((((case k1 => k_asm); (case k2 => k_asm); (case k3 => k_asm); (case k4 => k_asm); (case k5 => k_asm); (case kK => first | exact rfl | assumption))); (case kd => first | exact room_d hd (by decide) | (dsimp only [ktrTop]; simp only [recursionLimit] at *; omega)); (case ku => first | exact room_u hu (by decide) | (dsimp only [ktrTop]; simp only [cLine] at *; omega))))
    case kP => exact ⟨_, _, rfl, hP.keeps (Fr.keep (by k_asm))⟩
    intro r tl h9 tk9 F9 N9 of9 P9
    (repeat' ((((fail_if_success (with_reducible show wpAny _ _ (isTrue (Expr.BoolOp _ _ _) _ _) _ _ _)); (((fail_if_success (with_reducible show wpAny _ _ (call (Value.ref _) _) _ _ _)); (fail_if_success (with_reducible show wpAny _ _ (exec (Stmt.While _ _ _ _) _) _ _ _)))))); (first | (k_unfold; (try dsimp only)) | (k_end; wrow_close) | walk1 | (dsimp only; walk1) | (leave1; walk_say "STEP leave1"; try dsimp only) | fail "no step")))
    with_unfolding_all exact RetB.fin F9 N9 tl (fun _ h => List.mem_append.mpr (.inr h)) P9
  all_goals (
    dsimp only [How.str] at F'
    (try k_fold)
    (repeat' ((((fail_if_success (with_reducible show wpAny _ _ (isTrue (Expr.BoolOp _ _ _) _ _) _ _ _)); (((fail_if_success (with_reducible show wpAny _ _ (call (Value.ref _) _) _ _ _)); (fail_if_success (with_reducible show wpAny _ _ (exec (Stmt.While _ _ _ _) _) _ _ _)))))); (first | (k_unfold; (try dsimp only)) | (k_end; wrow_close) | walk1 | (dsimp only; walk1) | (leave1; walk_say "STEP leave1"; try dsimp only) | fail "no step")))
    with_unfolding_all refine' Con.use (con_shifted es 65535 hes) ?k1 ?k2 ?k3 ?k4 ?k5 ?kK ?kP ?kd ?ku ?_
    (((((case k1 => k_asm); (case k2 => k_asm); (case k3 => k_asm); (case k4 => k_asm); (case k5 => k_asm); (case kK => first | exact rfl | assumption))); (case kd => first | exact room_d hd (by decide) | (dsimp only [ktrTop]; simp only [recursionLimit] at *; omega)); (case ku => first | exact room_u hu (by decide) | (dsimp only [ktrTop]; simp only [cLine] at *; omega))))
    case kP => exact ⟨_, _, rfl, hP.keeps (Fr.keep (by k_asm))⟩
    intro r tl h9 tk9 F9 N9 of9 P9
    (repeat' ((((fail_if_success (with_reducible show wpAny _ _ (isTrue (Expr.BoolOp _ _ _) _ _) _ _ _)); (((fail_if_success (with_reducible show wpAny _ _ (call (Value.ref _) _) _ _ _)); (fail_if_success (with_reducible show wpAny _ _ (exec (Stmt.While _ _ _ _) _) _ _ _)))))); (first | (k_unfold; (try dsimp only)) | (k_end; wrow_close) | walk1 | (dsimp only; walk1) | (leave1; walk_say "STEP leave1"; try dsimp only) | fail "no step")))
    with_unfolding_all exact RetB.fin F9 N9 tl (fun _ h => List.mem_append.mpr (.inr h)) P9)
end

section
theorem top_off_C4 : True := by
  w_top off
  exact trivial
def lwStep (how : How) (st : Bool × List Row) (e : Elem) : Bool × List Row :=
  let f := if e.1 + e.2.1 + e.2.2.1 > 0 then 65535 else 0
  match how with
  | .ni => (st.1, st.2 ++ [(e.1, e.2.1, e.2.2.1, f)])
  | how =>
    if (e.2.2.2 && decide (e.1 > 0)) = true then (true, st.2 ++ [(0, 0, 0, match how with | .bl => 0 | _ => e.1)])
    else if (decide (e.1 = 0) && st.1) = true then (st.1, st.2 ++ [(0, 0, 0, 0)])
    else (st.1 && decide (e.1 = 0), st.2 ++ [(e.1, e.2.1, e.2.2.1, f)])
def lweighed (how : How) (es : List Elem) : List Row := (es.foldl (lwStep how) (false, [])).2
theorem lw_len (how : How) : ∀ (es : List Elem) (st : Bool × List Row), (es.foldl (lwStep how) st).2.length = st.2.length + es.length
  | [], st => by simp
  | e :: es, st => by
    rw [List.foldl_cons, lw_len how es]
    have : (lwStep how st e).2.length = st.2.length + 1 := by
      unfold lwStep
      cases how <;> dsimp only <;> (repeat' split) <;> simp
    rw [this, List.length_cons]; omega
set_option maxHeartbeats 16000000 in
theorem con_lweighed (how : How) (es : List Elem) (hes : es.length ≤ 100) : Con 150 1 (fun h vs => ∃ v t, vs = [v, .str how.str t] ∧ Rd h v (.list (es.map eP))) (fun tl r => Rf tl r (.list ((lweighed how es).map rP))) := by
  unfold Con; k_fill
  intro w mean mg mb dp un gd cn cs a ccd cl outer A₀ base h₀ L m news s vs Q E B F X N T hk hP hd hu hret
  obtain ⟨v0, t0, rfl, hP⟩ := hP
  refine wpAny_call ?_
  k_dflt (refine' code_defB (binds := [((Str.ofString "elements"), v0), ((Str.ofString "how"), .str how.str t0)]) ?k1 ?k2 ?k3 ?k5 ?kA ?kF ?kK ?k6 ?k7 ?k8 ?k9 ?kB ?_ ?c2 ?c3 ?c4 ?c5; (case kA => exact rfl); (case kF => exact rfl); (case kK => assumption); (case k1 => k_asm); (case k2 => k_asm); (case k3 => k_asm); (case k5 => k_asm); (case k6 => k_is); (case k7 => k_is); (case k8 => first | exact room_0 hd | (dsimp only [ktrTop]; omega)); (case k9 => first | exact BindsTo.of_eq rfl | exact binds_K (by k_in) rfl (by k_is) rfl rfl rfl); (case c5 => decide); (case kB => exact locs rfl); (case c2 => exact rfl); (case c3 => exact rfl); (case c4 => exact rfl); k_whole)
  intro g L' h₁ eg F' N' B' X' T'
  refine wpAny_mono (E := fun _ _ => False) (Q := fun fl s' => RetB g L' s (fun tl r => Rf tl r (.list ((lweighed how es).map rP))) (match fl with | .ret v => v | _ => .none) s') ?_ (fun fl s' h => RetB.back eg F N hret h) (fun _ _ h => False.elim h)
  clear hret F N X T B
  dsimp only [List.reverse_cons, List.reverse_nil, List.nil_append, List.cons_append, List.reverse, List.reverseAux] at F'
  (try rw [← eg] at hP); clear eg
  obtain ⟨l, vs, rfl, hl, hlen, hget⟩ := rd_list hP
  clear hP
  (try k_fold)
  k_steps
  (rename Fr _ _ _ _ => lF); (rename News _ _ _ _ => lN)
  with_unfolding_all refine for_build [] (fun i => (es.take i).foldl (lwStep how) (false, [])) (fun st => st.2.map rP) (fun st => [((Str.ofString "is_behind"), .bool st.1)]) (Str.ofString "found") [(Str.ofString "p"), (Str.ofString "s"), (Str.ofString "t"), (Str.ofString "is_variable"), (Str.ofString "fourth")] rfl lF lN rfl (by kst_in) (List.forall_mem_nil _) (isList_in hl) rfl (by kst_all) ?_ ?_
  · clear lF lN
    intro i v u vs' n tl rest h tk own hv hR htl ho hlo hrD hof F₁ N₁
    change Fr g L' h _ at F₁; change News g L' h _ at N₁
    obtain ⟨d, hd1, hd2⟩ := hget i v hv
    obtain ⟨e, he, rfl⟩ : ∃ e, es[i]? = some e ∧ eP e = d := by simpa using hd1
    obtain ⟨ax, t1, t2, t3, rfl, hT⟩ := rd_elem hd2
    clear hd1 hd2 hget hl hlen
    have hT' : IsTup h ax _ := hT.keeps F₁.keep
    have hsz : vs'.size ≤ 100 := by
      have h1 := hR.length
      rw [List.length_map, lw_len, List.length_take] at h1
      simp only [Array.length_toList, List.length_nil] at h1
      omega
    obtain ⟨p, q, r, x⟩ := e
    have hs1 := take_succ_fold (lwStep how) (false, []) _ _ _ he
    generalize hst : (es.take i).foldl (lwStep how) (false, []) = st at *
    obtain ⟨b, fs⟩ := st
    dsimp only at F₁ hT hT' hR
    clear hT hv hlo
    cases how
    all_goals (
      dsimp +zetaDelta only [How.str] at F₁
      (with_reducible show wpAny _ _ _ _ _ _); (try k_fold)
      (repeat' ((fail_if_success (with_reducible show wpAny _ _ (eval (Expr.IfExp _ _ _ _) _) _ _ _)); (((fail_if_success (with_reducible show wpAny _ _ (isTrue (Expr.BoolOp _ _ _) _ _) _ _ _)); (((fail_if_success (with_reducible show wpAny _ _ (call (Value.ref _) _) _ _ _)); (fail_if_success (with_reducible show wpAny _ _ (exec (Stmt.While _ _ _ _) _) _ _ _)))))); (first | (k_unfold; (try dsimp only)) | (k_end; wrow_close) | walk1 | (dsimp only; walk1) | (leave1; walk_say "STEP leave1"; try dsimp only) | fail "no step")))
      refine cut_int (if p + q + r > 0 then 65535 else 0) ?_ ?_
      · k_steps
        all_goals first | exact ⟨⟨_, by rw [if_pos (by omega)]⟩, _, rfl⟩ | exact ⟨⟨_, by rw [if_neg (by omega)]⟩, _, rfl⟩ | exact ⟨_, by rw [if_pos (by omega)]⟩ | exact ⟨_, by rw [if_neg (by omega)]⟩ | (rw [if_pos (by omega)]; done) | (rw [if_neg (by omega)]; done)
      intro u9 tk9
      (try dsimp only)
      (repeat' ((fail_if_success (with_reducible show wpAny _ _ (eval (Expr.IfExp _ _ _ _) _) _ _ _)); (((fail_if_success (with_reducible show wpAny _ _ (isTrue (Expr.BoolOp _ _ _) _ _) _ _ _)); (((fail_if_success (with_reducible show wpAny _ _ (call (Value.ref _) _) _ _ _)); (fail_if_success (with_reducible show wpAny _ _ (exec (Stmt.While _ _ _ _) _) _ _ _)))))); (first | (k_unfold; (try dsimp only)) | (k_end; wrow_close) | walk1 | (dsimp only; walk1) | (leave1; walk_say "STEP leave1"; try dsimp only) | fail "no step"))))
    · dsimp only [lwStep] at hs1
      (rename Fr _ _ _ _ => F9); (rename News _ _ _ _ => N9); (rename _ ∧ AllLt _ _ => l9)
      with_unfolding_all refine build_end1 (by rw [hst]; exact hR) htl ho hrD hof F9 N9 l9 (Rf.tuple (.head _) (.cons .int (.cons .int (.cons .int (.cons .int .nil))))) ?_ ?_ ?_
      · rw [hs1, hst]; simp only [List.map_append, List.map_cons, List.map_nil]; first | rfl
      · rw [hs1]; first | kst_all | (cases b <;> first | kst_all | contradiction)
      · (first | (intro z h2 h3; (try dsimp only at h2); (repeat (first | exact skc h3 | (with_reducible exact rfl) | (refine sk (ne_in h3 (by with_reducible first | exact nm_head | exact nm_tail nm_head | exact nm_tail (nm_tail nm_head) | exact nm_tail (nm_tail (nm_tail nm_head)) | exact nm_tail (nm_tail (nm_tail (nm_tail nm_head))) | exact nm_tail (nm_tail (nm_tail (nm_tail (nm_tail nm_head)))) | exact nm_tail (nm_tail (nm_tail (nm_tail (nm_tail (nm_tail nm_head))))) | exact nm_tail (nm_tail (nm_tail (nm_tail (nm_tail (nm_tail (nm_tail nm_head)))))) | exact nm_tail (nm_tail (nm_tail (nm_tail (nm_tail (nm_tail (nm_tail (nm_tail nm_head))))))))) ?_) | (refine sk (ne_h h2) ?_) | (refine sk (ne_h (ne_t h2)) ?_) | (refine sk (ne_h (ne_t (ne_t h2))) ?_) | fail "no name")); done) | (walk_say "OLDSAME"; (((try dsimp +zetaDelta only); intro z h2 h3; (try simp only [List.forall_mem_cons, List.not_mem_nil, false_implies, implies_true, and_true, ne_eq] at h2); (have h4 := h3); (simp only [List.contains_cons, List.contains_nil, Bool.or_false, Bool.or_eq_false_iff, beq_eq_false_iff_ne, ne_eq] at h3); ((simp only [kstB, h2, h3, h4, if_false, Bool.false_eq_true]) <;> rfl)))))
    all_goals (
      dsimp only [lwStep] at hs1
      refine cut_test ((x && decide (p > 0)) = true) ?_ ?_ ?_
      · k_steps
        all_goals ((((repeat (rename Fr _ _ _ _ => x9; clear x9)); (repeat (rename News _ _ _ _ => x9; clear x9)); (repeat (rename RfAll _ _ _ => x9; clear x9)); (repeat (rename IsTup _ _ _ => x9; clear x9)); (repeat (rename Below _ _ _ _ => x9; clear x9)); (repeat (rename Top _ _ _ _ _ _ => x9; clear x9)); (repeat (rename Frag.In _ _ => x9; clear x9)))); simp_all; done)
      · intro tk8 hC
        rw [if_pos hC] at hs1
        simp only [if_true, Bool.false_eq_true, if_false]
        k_steps
        (rename Fr _ _ _ _ => F9); (rename News _ _ _ _ => N9); (rename _ ∧ AllLt _ _ => l9)
        with_unfolding_all refine build_end1 (by rw [hst]; exact hR) htl ho hrD hof F9 N9 l9 (Rf.tuple (.head _) (.cons .int (.cons .int (.cons .int (.cons .int .nil))))) ?_ ?_ ?_
        · rw [hs1, hst]; simp only [List.map_append, List.map_cons, List.map_nil]; first | rfl
        · rw [hs1]; first | kst_all | (cases b <;> first | kst_all | contradiction)
        · (first | (intro z h2 h3; (try dsimp only at h2); (repeat (first | exact skc h3 | (with_reducible exact rfl) | (refine sk (ne_in h3 (by with_reducible first | exact nm_head | exact nm_tail nm_head | exact nm_tail (nm_tail nm_head) | exact nm_tail (nm_tail (nm_tail nm_head)) | exact nm_tail (nm_tail (nm_tail (nm_tail nm_head))) | exact nm_tail (nm_tail (nm_tail (nm_tail (nm_tail nm_head)))) | exact nm_tail (nm_tail (nm_tail (nm_tail (nm_tail (nm_tail nm_head))))) | exact nm_tail (nm_tail (nm_tail (nm_tail (nm_tail (nm_tail (nm_tail nm_head)))))) | exact nm_tail (nm_tail (nm_tail (nm_tail (nm_tail (nm_tail (nm_tail (nm_tail nm_head))))))))) ?_) | (refine sk (ne_h h2) ?_) | (refine sk (ne_h (ne_t h2)) ?_) | (refine sk (ne_h (ne_t (ne_t h2))) ?_) | fail "no name")); done) | (walk_say "OLDSAME"; (((try dsimp +zetaDelta only); intro z h2 h3; (try simp only [List.forall_mem_cons, List.not_mem_nil, false_implies, implies_true, and_true, ne_eq] at h2); (have h4 := h3); (simp only [List.contains_cons, List.contains_nil, Bool.or_false, Bool.or_eq_false_iff, beq_eq_false_iff_ne, ne_eq] at h3); ((simp only [kstB, h2, h3, h4, if_false, Bool.false_eq_true]) <;> rfl)))))
      · intro tk8 hC0
        rw [if_neg hC0] at hs1
        simp only [if_true, Bool.false_eq_true, if_false]
        (repeat' ((fail_if_success (with_reducible show wpAny _ _ (eval (Expr.IfExp _ _ _ _) _) _ _ _)); (((fail_if_success (with_reducible show wpAny _ _ (isTrue (Expr.BoolOp _ _ _) _ _) _ _ _)); (((fail_if_success (with_reducible show wpAny _ _ (call (Value.ref _) _) _ _ _)); (fail_if_success (with_reducible show wpAny _ _ (exec (Stmt.While _ _ _ _) _) _ _ _)))))); (first | (k_unfold; (try dsimp only)) | (k_end; wrow_close) | walk1 | (dsimp only; walk1) | (leave1; walk_say "STEP leave1"; try dsimp only) | fail "no step")))
        refine cut_test ((decide (p = 0) && b) = true) ?_ ?_ ?_
        · k_steps
          all_goals ((((repeat (rename Fr _ _ _ _ => x9; clear x9)); (repeat (rename News _ _ _ _ => x9; clear x9)); (repeat (rename RfAll _ _ _ => x9; clear x9)); (repeat (rename IsTup _ _ _ => x9; clear x9)); (repeat (rename Below _ _ _ _ => x9; clear x9)); (repeat (rename Top _ _ _ _ _ _ => x9; clear x9)); (repeat (rename Frag.In _ _ => x9; clear x9)))); simp_all; done)
        · intro tk7 hC
          rw [if_pos hC] at hs1
          simp only [if_true, Bool.false_eq_true, if_false]
          k_steps
          (rename Fr _ _ _ _ => F9); (rename News _ _ _ _ => N9); (rename _ ∧ AllLt _ _ => l9)
          with_unfolding_all refine build_end1 (by rw [hst]; exact hR) htl ho hrD hof F9 N9 l9 (Rf.tuple (.head _) (.cons .int (.cons .int (.cons .int (.cons .int .nil))))) ?_ ?_ ?_
          · rw [hs1, hst]; simp only [List.map_append, List.map_cons, List.map_nil]; first | rfl
          · rw [hs1]; first | kst_all | (cases b <;> first | kst_all | contradiction)
          · (first | (intro z h2 h3; (try dsimp only at h2); (repeat (first | exact skc h3 | (with_reducible exact rfl) | (refine sk (ne_in h3 (by with_reducible first | exact nm_head | exact nm_tail nm_head | exact nm_tail (nm_tail nm_head) | exact nm_tail (nm_tail (nm_tail nm_head)) | exact nm_tail (nm_tail (nm_tail (nm_tail nm_head))) | exact nm_tail (nm_tail (nm_tail (nm_tail (nm_tail nm_head)))) | exact nm_tail (nm_tail (nm_tail (nm_tail (nm_tail (nm_tail nm_head))))) | exact nm_tail (nm_tail (nm_tail (nm_tail (nm_tail (nm_tail (nm_tail nm_head)))))) | exact nm_tail (nm_tail (nm_tail (nm_tail (nm_tail (nm_tail (nm_tail (nm_tail nm_head))))))))) ?_) | (refine sk (ne_h h2) ?_) | (refine sk (ne_h (ne_t h2)) ?_) | (refine sk (ne_h (ne_t (ne_t h2))) ?_) | fail "no name")); done) | (walk_say "OLDSAME"; (((try dsimp +zetaDelta only); intro z h2 h3; (try simp only [List.forall_mem_cons, List.not_mem_nil, false_implies, implies_true, and_true, ne_eq] at h2); (have h4 := h3); (simp only [List.contains_cons, List.contains_nil, Bool.or_false, Bool.or_eq_false_iff, beq_eq_false_iff_ne, ne_eq] at h3); ((simp only [kstB, h2, h3, h4, if_false, Bool.false_eq_true]) <;> rfl)))))
        · intro tk7 hC
          rw [if_neg hC] at hs1
          simp only [if_true, Bool.false_eq_true, if_false]
          k_steps
          all_goals (
            (rename Fr _ _ _ _ => F9); (rename News _ _ _ _ => N9); (rename _ ∧ AllLt _ _ => l9)
            with_unfolding_all refine build_end1 (by rw [hst]; exact hR) htl ho hrD hof F9 N9 l9 (Rf.tuple (.head _) (.cons .int (.cons .int (.cons .int (.cons .int .nil))))) ?_ ?_ ?_
            · rw [hs1, hst]; simp only [List.map_append, List.map_cons, List.map_nil]; first | rfl
            · rw [hs1]; first | kst_all | (cases b <;> first | kst_all | contradiction)
            · (first | (intro z h2 h3; (try dsimp only at h2); (repeat (first | exact skc h3 | (with_reducible exact rfl) | (refine sk (ne_in h3 (by with_reducible first | exact nm_head | exact nm_tail nm_head | exact nm_tail (nm_tail nm_head) | exact nm_tail (nm_tail (nm_tail nm_head)) | exact nm_tail (nm_tail (nm_tail (nm_tail nm_head))) | exact nm_tail (nm_tail (nm_tail (nm_tail (nm_tail nm_head)))) | exact nm_tail (nm_tail (nm_tail (nm_tail (nm_tail (nm_tail nm_head))))) | exact nm_tail (nm_tail (nm_tail (nm_tail (nm_tail (nm_tail (nm_tail nm_head)))))) | exact nm_tail (nm_tail (nm_tail (nm_tail (nm_tail (nm_tail (nm_tail (nm_tail nm_head))))))))) ?_) | (refine sk (ne_h h2) ?_) | (refine sk (ne_h (ne_t h2)) ?_) | (refine sk (ne_h (ne_t (ne_t h2))) ?_) | fail "no name")); done) | (walk_say "OLDSAME"; (((try dsimp +zetaDelta only); intro z h2 h3; (try simp only [List.forall_mem_cons, List.not_mem_nil, false_implies, implies_true, and_true, ne_eq] at h2); (have h4 := h3); (simp only [List.contains_cons, List.contains_nil, Bool.or_false, Bool.or_eq_false_iff, beq_eq_false_iff_ne, ne_eq] at h3); ((simp only [kstB, h2, h3, h4, if_false, Bool.false_eq_true]) <;> rfl)))))))
  · intro u vs' n tl h tk hR hne F₁ N₁
    clear lF lN
    change Fr g L' h _ at F₁; change News g L' h _ at N₁
    (with_reducible show wpAny _ _ _ _ _ _); (try k_fold)
    k_steps
    (rename Fr _ _ _ _ => F9); (rename News _ _ _ _ => N9)
    have e1 : es.take vs.length = es := by rw [List.take_of_length_le]; rw [hlen, List.length_map]; exact Nat.le_refl _
    rw [e1] at hR
    with_unfolding_all exact RetB.fin F9 N9 _ (fun _ h => h) (Rf.list (.head _) (hR.mono fun p hp => .tail _ (List.mem_append.mpr (.inl hp))))
end

section
theorem top_off_C5 : True := by
  w_top off
  exact trivial
def OptAt (h : Heap) (v : Value) (how : How) (str : Int) (bw : Bool) : Prop := ∃ x ox es n t1 t2 t3 fa u1 u2 u3, v = .ref x ∧ InstAt h x ox 33 (some (dictOf es n)) ∧ getL (Str.ofString "how") es = some (some (.str how.str t1)) ∧ getL (Str.ofString "strength") es = some (some (.int str t2)) ∧
  getL (Str.ofString "is_backwards") es = some (some (.bool bw)) ∧ getL (Str.ofString "case_first") es = some (some (.str Str.empty t3)) ∧ getL (Str.ofString "has_case_level") es = some (some (.bool false)) ∧ getL (Str.ofString "reorder") es = some (some .none) ∧ getL (Str.ofString "factors") es = some (some (.ref fa)) ∧ IsTup h fa #[.int 1 u1, .int 1 u2, .int 1 u3]
theorem OptAt.keeps {h h' : Heap} {v : Value} {how : How} {str : Int} {bw : Bool} (o : OptAt h v how str bw) (hk : ∀ b o, h.get? b = some o → h'.get? b = some o) : OptAt h' v how str bw := by
  obtain ⟨x, ox, es, n, t1, t2, t3, fa, u1, u2, u3, e, I, a1, a2, a3, a4, a5, a6, a7, T⟩ := o
  exact ⟨x, ox, es, n, t1, t2, t3, fa, u1, u2, u3, e, instAt_keeps I hk, a1, a2, a3, a4, a5, a6, a7, T.keeps hk⟩
end

section
theorem top_off_C6 : True := by
  w_top off
  exact trivial
def nz (l : List Int) : List Int := l.filter (fun x => decide (x ≠ 0))
theorem nz_len (l : List Int) : (nz l).length ≤ l.length := List.length_filter_le _ _
theorem nz_snoc (l : List Int) (x : Int) : nz (l ++ [x]) = nz l ++ (if x ≠ 0 then [x] else []) := by
  unfold nz; rw [List.filter_append]; by_cases h : x = 0 <;> simp [h]
theorem map_take_succ {α β : Type} (f : α → β) (l : List α) (i : Nat) (a : α) (h : l[i]? = some a) : (l.take (i + 1)).map f = (l.take i).map f ++ [f a] := by
  rw [List.take_add_one, h]; simp
set_option maxHeartbeats 16000000 in
theorem con_first (how : How) (str : Int) (bw : Bool) (ws : List Row) (hws : ws.length ≤ 100) : Con 72 1 (fun h vs => ∃ v o, vs = [v, o] ∧ Rd h v (.list (ws.map rP)) ∧ OptAt h o how str bw) (fun tl r => RL tl r ((nz (ws.map (·.1))).map .int)) := by
  unfold Con; k_fill
  intro w mean mg mb dp un gd cn cs a ccd cl outer A₀ base h₀ L m news s vs Q E B F X N T hk hP hd hu hret
  obtain ⟨v0, o0, rfl, hP⟩ := hP
  refine wpAny_call ?_
  k_dflt (refine' code_defCB (binds := [((Str.ofString "weights"), v0), ((Str.ofString "options"), o0)]) ?k1 ?k2 ?k3 ?k5 ?kA ?kF ?kK ?k6 ?k7 ?k8 ?k9 ?kB ?kD ?_ ?c2 ?c3 ?c4; (case kA => exact rfl); (case kF => exact rfl); (case kK => assumption); (case k1 => k_asm); (case k2 => k_asm); (case k3 => k_asm); (case k5 => k_asm); (case k6 => k_is); (case k7 => k_is); (case k8 => first | exact room_0 hd | (dsimp only [ktrTop]; omega)); (case k9 => first | exact BindsTo.of_eq rfl | exact binds_K (by k_in) rfl (by k_is) rfl rfl rfl); (case kB => exact rfl); (case kD => decide +kernel); (case c2 => exact rfl); (case c3 => exact rfl); (case c4 => exact rfl); k_whole)
  intro g L' h₁ tkC cells' eg F' N' Y' B' X' T'
  k_cells Y'
  refine wpAny_mono (E := fun _ _ => False) (Q := fun fl s' => RetB g L' s (fun tl r => RL tl r ((nz (ws.map (·.1))).map .int)) (match fl with | .ret v => v | _ => .none) s') ?_ (fun fl s' h => RetB.back eg F N hret h) (fun _ _ h => False.elim h)
  clear hret F N X T B
  (try rw [← eg] at hP); clear eg
  obtain ⟨hP, hO⟩ := hP
  obtain ⟨l, vs, rfl, hl, hlen, hget⟩ := rd_list hP
  obtain ⟨x, ox, es, n, t1, t2, t3, fa, u1, u2, u3, rfl, I, a1, a2, a3, a4, a5, a6, a7, T⟩ := hO
  clear hP
  (try k_fold)
  k_steps
  (rename Fr _ _ _ _ => lF); (rename News _ _ _ _ => lN)
  refine comp_listT (fun i => (nz ((ws.take i).map (·.1))).map .int) rfl lF lN (.inl hl) (by rw [hlen, List.length_map]; first | exact fit100 (by assumption) | exact fit1000 (by assumption) | exact fit500 (by assumption) | (rw [sizeLine_eq]; omega)) rfl ?_ ?_
  · intro i v ys tl I' oI C oC D m₂ h tk E' hv hR hC hx F₁ N₁ off ne
    ((try with_reducible show wpAny _ _ _ _ _ _); (try k_fold))
    obtain ⟨d, hd1, hd2⟩ := hget i v hv
    obtain ⟨e, he, rfl⟩ : ∃ e, ws[i]? = some e ∧ rP e = d := by simpa using hd1
    obtain ⟨ax, q1, q2, q3, q4, rfl, hT⟩ := rd_row hd2
    obtain ⟨p, q, r, z⟩ := e
    dsimp only at hT
    have hT' := hT.keeps F₁.keep
    have hs1 := map_take_succ (·.1) ws i _ he
    clear lF lN hget hT hd1 hd2
    (try k_fold)
    k_steps
    all_goals (
      (rename Fr _ _ _ _ => F9); (rename News _ _ _ _ => N9)
      refine LCg.CompEnd.intro F9 N9 _ (fun _ h => h) off (.inl hl) ⟨tl, rfl, ?_⟩
      (try dsimp only)
      rw [hs1, nz_snoc]
      first | (rw [if_pos (by omega), List.map_append]; exact hR.append (.cons Rf.int .nil)) | (rw [if_neg (by omega), List.append_nil]; exact hR))
  · intro g9 tl ys hR
    intro D h9 tk9 F9 N9 o9
    clear lF lN
    k_steps
    (rename Fr _ _ _ _ => F9); (rename News _ _ _ _ => N9)
    have e1 : ws.take vs.length = ws := by rw [List.take_of_length_le]; rw [hlen, List.length_map]; exact Nat.le_refl _
    rw [e1] at hR
    with_unfolding_all exact RetB.fin F9 N9 ((D, LCg.lst ys) :: tl) (fun p hp => by rcases List.mem_cons.mp hp with rfl | hp; exact .head _; exact .tail _ (List.mem_append.mpr (.inl hp))) (RL.mk (.head _) (hR.mono fun p hp => .tail _ hp))
end

section
theorem top_off_C7 : True := by
  w_top off
  exact trivial
set_option maxHeartbeats 16000000 in
theorem con_second (how : How) (str : Int) (bw : Bool) (ws : List Row) (hws : ws.length ≤ 100) : Con 77 1 (fun h vs => ∃ v o, vs = [v, o] ∧ Rd h v (.list (ws.map rP)) ∧ OptAt h o how str bw) (fun tl r => RL tl r ((if bw then (nz (ws.map (·.2.1))).reverse else nz (ws.map (·.2.1))).map .int)) := by
  unfold Con; k_fill
  intro w mean mg mb dp un gd cn cs a ccd cl outer A₀ base h₀ L m news s vs Q E B F X N T hk hP hd hu hret
  obtain ⟨v0, o0, rfl, hP⟩ := hP
  refine wpAny_call ?_
  k_dflt (refine' code_defB (binds := [((Str.ofString "weights"), v0), ((Str.ofString "options"), o0)]) ?k1 ?k2 ?k3 ?k5 ?kA ?kF ?kK ?k6 ?k7 ?k8 ?k9 ?kB ?_ ?c2 ?c3 ?c4 ?c5; (case kA => exact rfl); (case kF => exact rfl); (case kK => assumption); (case k1 => k_asm); (case k2 => k_asm); (case k3 => k_asm); (case k5 => k_asm); (case k6 => k_is); (case k7 => k_is); (case k8 => first | exact room_0 hd | (dsimp only [ktrTop]; omega)); (case k9 => first | exact BindsTo.of_eq rfl | exact binds_K (by k_in) rfl (by k_is) rfl rfl rfl); (case c5 => decide); (case kB => exact locs rfl); (case c2 => exact rfl); (case c3 => exact rfl); (case c4 => exact rfl); k_whole)
  intro g L' h₁ eg F' N' B' X' T'
  refine wpAny_mono (E := fun _ _ => False) (Q := fun fl s' => RetB g L' s (fun tl r => RL tl r ((if bw then (nz (ws.map (·.2.1))).reverse else nz (ws.map (·.2.1))).map .int)) (match fl with | .ret v => v | _ => .none) s') ?_ (fun fl s' h => RetB.back eg F N hret h) (fun _ _ h => False.elim h)
  clear hret F N X T B
  dsimp only [List.reverse_cons, List.reverse_nil, List.nil_append, List.cons_append, List.reverse, List.reverseAux] at F'
  (try rw [← eg] at hP); clear eg
  obtain ⟨hP, hO⟩ := hP
  obtain ⟨l, vs, rfl, hl, hlen, hget⟩ := rd_list hP
  obtain ⟨x, ox, es, n, t1, t2, t3, fa, u1, u2, u3, rfl, I, a1, a2, a3, a4, a5, a6, a7, T⟩ := hO
  clear hP
  (try k_fold)
  k_steps
  (rename Fr _ _ _ _ => lF); (rename News _ _ _ _ => lN)
  refine comp_listT (fun i => (nz ((ws.take i).map (·.2.1))).map .int) rfl lF lN (.inl hl) (by rw [hlen, List.length_map]; first | exact fit100 (by assumption) | exact fit1000 (by assumption) | exact fit500 (by assumption) | (rw [sizeLine_eq]; omega)) rfl ?_ ?_
  · intro i v ys tl I' oI C oC D m₂ h tk E' hv hR hC hx F₁ N₁ off ne
    ((try with_reducible show wpAny _ _ _ _ _ _); (try k_fold))
    obtain ⟨d, hd1, hd2⟩ := hget i v hv
    obtain ⟨e, he, rfl⟩ : ∃ e, ws[i]? = some e ∧ rP e = d := by simpa using hd1
    obtain ⟨ax, q1, q2, q3, q4, rfl, hT⟩ := rd_row hd2
    obtain ⟨p, q, r, z⟩ := e
    dsimp only at hT
    have hT' := hT.keeps F₁.keep
    have hs1 := map_take_succ (·.2.1) ws i _ he
    dsimp only at hs1
    clear lF lN hget hT hd1 hd2
    (try k_fold)
    k_steps
    all_goals (
      (rename Fr _ _ _ _ => F9); (rename News _ _ _ _ => N9)
      refine LCg.CompEnd.intro F9 N9 _ (fun _ h => h) off (.inl hl) ⟨tl, rfl, ?_⟩
      (try dsimp only)
      rw [hs1, nz_snoc]
      first | (rw [if_pos (by omega), List.map_append]; exact hR.append (.cons Rf.int .nil)) | (rw [if_neg (by omega), List.append_nil]; exact hR))
  · intro g9 tl ys hR
    intro D h9 tk9 F9 N9 o9
    clear lF lN
    have e1 : ws.take vs.length = ws := by rw [List.take_of_length_le]; rw [hlen, List.length_map]; exact Nat.le_refl _
    rw [e1] at hR
    have hI : IntsAre ys (nz (ws.map (·.2.1))) := rfAll_ints N9 (fun p hp => .tail _ (List.mem_append.mpr (.inl hp))) hR
    have hln : ys.length ≤ 100 := by rw [hI.length]; have := nz_len (ws.map (·.2.1)); rw [List.length_map] at this; omega
    clear hR
    cases bw
    all_goals (
      k_steps
      (rename Fr _ _ _ _ => F8); (rename News _ _ _ _ => N8))
    · with_unfolding_all exact RetB.fin F8 N8 [(D, LCg.lst ys)] (fun p hp => by rw [List.mem_singleton.mp hp]; exact .head _) (RL.mk (.head _) (RfAll.ints hI))
    · (rename IntsAre _ _ => hI8)
      with_unfolding_all exact RetB.fin F8 N8 _ (fun p hp => hp) (RL.mk (.head _) (RfAll.ints hI8))
end

section
theorem top_off_C8 : True := by
  w_top off
  exact trivial
set_option maxHeartbeats 16000000 in
theorem con_third (how : How) (str : Int) (bw : Bool) (ws : List Row) (hws : ws.length ≤ 100) : Con 87 1 (fun h vs => ∃ v o, vs = [v, o] ∧ Rd h v (.list (ws.map rP)) ∧ OptAt h o how str bw) (fun tl r => RL tl r ((nz (ws.map (·.2.2.1))).map .int)) := by
  unfold Con; k_fill
  intro w mean mg mb dp un gd cn cs a ccd cl outer A₀ base h₀ L m news s vs Q E B F X N T hk hP hd hu hret
  obtain ⟨v0, o0, rfl, hP⟩ := hP
  refine wpAny_call ?_
  k_dflt (refine' code_defCB (binds := [((Str.ofString "weights"), v0), ((Str.ofString "options"), o0)]) ?k1 ?k2 ?k3 ?k5 ?kA ?kF ?kK ?k6 ?k7 ?k8 ?k9 ?kB ?kD ?_ ?c2 ?c3 ?c4; (case kA => exact rfl); (case kF => exact rfl); (case kK => assumption); (case k1 => k_asm); (case k2 => k_asm); (case k3 => k_asm); (case k5 => k_asm); (case k6 => k_is); (case k7 => k_is); (case k8 => first | exact room_0 hd | (dsimp only [ktrTop]; omega)); (case k9 => first | exact BindsTo.of_eq rfl | exact binds_K (by k_in) rfl (by k_is) rfl rfl rfl); (case kB => exact rfl); (case kD => decide +kernel); (case c2 => exact rfl); (case c3 => exact rfl); (case c4 => exact rfl); k_whole)
  intro g L' h₁ tkC cells' eg F' N' Y' B' X' T'
  k_cells Y'
  refine wpAny_mono (E := fun _ _ => False) (Q := fun fl s' => RetB g L' s (fun tl r => RL tl r ((nz (ws.map (·.2.2.1))).map .int)) (match fl with | .ret v => v | _ => .none) s') ?_ (fun fl s' h => RetB.back eg F N hret h) (fun _ _ h => False.elim h)
  clear hret F N X T B
  (try rw [← eg] at hP); clear eg
  obtain ⟨hP, hO⟩ := hP
  obtain ⟨l, vs, rfl, hl, hlen, hget⟩ := rd_list hP
  obtain ⟨x, ox, es, n, t1, t2, t3, fa, u1, u2, u3, rfl, I, a1, a2, a3, a4, a5, a6, a7, T⟩ := hO
  clear hP
  (try k_fold)
  k_steps
  (rename Fr _ _ _ _ => lF); (rename News _ _ _ _ => lN)
  refine comp_listT (fun i => (nz ((ws.take i).map (·.2.2.1))).map .int) rfl lF lN (.inl hl) (by rw [hlen, List.length_map]; first | exact fit100 (by assumption) | exact fit1000 (by assumption) | exact fit500 (by assumption) | (rw [sizeLine_eq]; omega)) rfl ?_ ?_
  · intro i v ys tl I' oI C oC D m₂ h tk E' hv hR hC hx F₁ N₁ off ne
    ((try with_reducible show wpAny _ _ _ _ _ _); (try k_fold))
    obtain ⟨d, hd1, hd2⟩ := hget i v hv
    obtain ⟨e, he, rfl⟩ : ∃ e, ws[i]? = some e ∧ rP e = d := by simpa using hd1
    obtain ⟨ax, q1, q2, q3, q4, rfl, hT⟩ := rd_row hd2
    obtain ⟨p, q, r, z⟩ := e
    dsimp only at hT
    have hT' := hT.keeps F₁.keep
    have hs1 := map_take_succ (·.2.2.1) ws i _ he
    dsimp only at hs1
    clear lF lN hget hT hd1 hd2
    (try k_fold)
    k_steps
    all_goals (
      (rename Fr _ _ _ _ => F9); (rename News _ _ _ _ => N9)
      refine LCg.CompEnd.intro F9 N9 _ (fun _ h => h) off (.inl hl) ⟨tl, rfl, ?_⟩
      (try dsimp only)
      rw [hs1, nz_snoc]
      first | (rw [if_pos (by omega), List.map_append]; exact hR.append (.cons Rf.int .nil)) | (rw [if_neg (by omega), List.append_nil]; exact hR))
  · intro g9 tl ys hR
    intro D h9 tk9 F9 N9 o9
    clear lF lN
    k_steps
    (rename Fr _ _ _ _ => F9); (rename News _ _ _ _ => N9)
    have e1 : ws.take vs.length = ws := by rw [List.take_of_length_le]; rw [hlen, List.length_map]; exact Nat.le_refl _
    rw [e1] at hR
    with_unfolding_all exact RetB.fin F9 N9 ((D, LCg.lst ys) :: tl) (fun p hp => by rcases List.mem_cons.mp hp with rfl | hp; exact .head _; exact .tail _ (List.mem_append.mpr (.inl hp))) (RL.mk (.head _) (hR.mono fun p hp => .tail _ hp))
end

section
theorem top_off_C9 : True := by
  w_top off
  exact trivial
def trimR (l : List Int) : List Int := (l.reverse.dropWhile (fun x => decide (x = 65535))).reverse
def fourthS (how : How) (ws : List Row) : List Int := match how with
  | .st => trimR (nz (ws.map (·.2.2.2)))
  | _ => nz (ws.map (·.2.2.2))
theorem trimR_snoc (l : List Int) (x : Int) : trimR (l ++ [x]) = if x = 65535 then trimR l else l ++ [x] := by
  unfold trimR; rw [List.reverse_append]; by_cases h : x = 65535 <;> simp [h]
theorem trimR_nil : trimR [] = [] := rfl
set_option maxHeartbeats 16000000 in
theorem con_fourth (how : How) (str : Int) (bw : Bool) (ws : List Row) (hws : ws.length ≤ 100) : Con 92 1 (fun h vs => ∃ v o, vs = [v, o] ∧ Rd h v (.list (ws.map rP)) ∧ OptAt h o how str bw) (fun tl r => RL tl r ((fourthS how ws).map .int)) := by
  unfold Con; k_fill
  intro w mean mg mb dp un gd cn cs a ccd cl outer A₀ base h₀ L m news s vs Q E B F X N T hk hP hd hu hret
  obtain ⟨v0, o0, rfl, hP⟩ := hP
  refine wpAny_call ?_
  k_dflt (refine' code_defB (binds := [((Str.ofString "weights"), v0), ((Str.ofString "options"), o0)]) ?k1 ?k2 ?k3 ?k5 ?kA ?kF ?kK ?k6 ?k7 ?k8 ?k9 ?kB ?_ ?c2 ?c3 ?c4 ?c5; (case kA => exact rfl); (case kF => exact rfl); (case kK => assumption); (case k1 => k_asm); (case k2 => k_asm); (case k3 => k_asm); (case k5 => k_asm); (case k6 => k_is); (case k7 => k_is); (case k8 => first | exact room_0 hd | (dsimp only [ktrTop]; omega)); (case k9 => first | exact BindsTo.of_eq rfl | exact binds_K (by k_in) rfl (by k_is) rfl rfl rfl); (case c5 => decide); (case kB => exact locs rfl); (case c2 => exact rfl); (case c3 => exact rfl); (case c4 => exact rfl); k_whole)
  intro g L' h₁ eg F' N' B' X' T'
  refine wpAny_mono (E := fun _ _ => False) (Q := fun fl s' => RetB g L' s (fun tl r => RL tl r ((fourthS how ws).map .int)) (match fl with | .ret v => v | _ => .none) s') ?_ (fun fl s' h => RetB.back eg F N hret h) (fun _ _ h => False.elim h)
  clear hret F N X T B
  dsimp only [List.reverse_cons, List.reverse_nil, List.nil_append, List.cons_append, List.reverse, List.reverseAux] at F'
  (try rw [← eg] at hP); clear eg
  obtain ⟨hP, hO⟩ := hP
  obtain ⟨l, vs, rfl, hl, hlen, hget⟩ := rd_list hP
  obtain ⟨x, ox, es, n, t1, t2, t3, fa, u1, u2, u3, rfl, I, a1, a2, a3, a4, a5, a6, a7, T⟩ := hO
  clear hP
  (try k_fold)
  k_steps
  (rename Fr _ _ _ _ => lF); (rename News _ _ _ _ => lN)
  refine comp_listT (fun i => (nz ((ws.take i).map (·.2.2.2))).map .int) rfl lF lN (.inl hl) (by rw [hlen, List.length_map]; first | exact fit100 (by assumption) | exact fit1000 (by assumption) | exact fit500 (by assumption) | (rw [sizeLine_eq]; omega)) rfl ?_ ?_
  · intro i v ys tl I' oI C oC D m₂ h tk E' hv hR hC hx F₁ N₁ off ne
    ((try with_reducible show wpAny _ _ _ _ _ _); (try k_fold))
    obtain ⟨d, hd1, hd2⟩ := hget i v hv
    obtain ⟨e, he, rfl⟩ : ∃ e, ws[i]? = some e ∧ rP e = d := by simpa using hd1
    obtain ⟨ax, q1, q2, q3, q4, rfl, hT⟩ := rd_row hd2
    obtain ⟨p, q, r, z⟩ := e
    dsimp only at hT
    have hT' := hT.keeps F₁.keep
    have hs1 := map_take_succ (·.2.2.2) ws i _ he
    dsimp only at hs1
    clear lF lN hget hT hd1 hd2
    (try k_fold)
    k_steps
    all_goals (
      (rename Fr _ _ _ _ => F9); (rename News _ _ _ _ => N9)
      refine LCg.CompEnd.intro F9 N9 _ (fun _ h => h) off (.inl hl) ⟨tl, rfl, ?_⟩
      (try dsimp only)
      rw [hs1, nz_snoc]
      first | (rw [if_pos (by omega), List.map_append]; exact hR.append (.cons Rf.int .nil)) | (rw [if_neg (by omega), List.append_nil]; exact hR))
  · intro g9 tl ys hR
    intro D h9 tk9 F9 N9 o9
    clear lF lN
    have e1 : ws.take vs.length = ws := by rw [List.take_of_length_le]; rw [hlen, List.length_map]; exact Nat.le_refl _
    rw [e1] at hR
    have hI : IntsAre ys (nz (ws.map (·.2.2.2))) := rfAll_ints N9 (fun p hp => .tail _ (List.mem_append.mpr (.inl hp))) hR
    have hln : ys.length ≤ 100 := by rw [hI.length]; have := nz_len (ws.map (·.2.2.2)); rw [List.length_map] at this; omega
    clear hR
    have N8 : News g L' h9 [(D, LCg.lst ys)] := fun p hp => N9 p (by rw [List.mem_singleton.mp hp]; exact .head _)
    clear N9 o9
    cases how
    all_goals dsimp only [How.str] at a1
    all_goals (repeat' ((((fail_if_success (with_reducible show wpAny _ _ (isTrue (Expr.BoolOp _ _ _) _ _) _ _ _)); (((fail_if_success (with_reducible show wpAny _ _ (call (Value.ref _) _) _ _ _)); (fail_if_success (with_reducible show wpAny _ _ (exec (Stmt.While _ _ _ _) _) _ _ _)))))); (first | (k_unfold; (try dsimp only)) | (k_end; wrow_close) | walk1 | (dsimp only; walk1) | (leave1; walk_say "STEP leave1"; try dsimp only) | fail "no step")))
    · (rename Fr _ _ _ _ => F8); (rename News _ _ _ _ => N8)
      with_unfolding_all exact RetB.fin F8 N8 [(D, LCg.lst ys)] (fun p hp => hp) (RL.mk (.head _) (RfAll.ints hI))
    · (rename Fr _ _ _ _ => F8); (rename News _ _ _ _ => N8)
      with_unfolding_all exact RetB.fin F8 N8 [(D, LCg.lst ys)] (fun p hp => hp) (RL.mk (.head _) (RfAll.ints hI))
    · (rename Fr _ _ _ _ => F8); (rename News _ _ _ _ => N8)
      with_unfolding_all exact RetB.fin F8 N8 [(D, LCg.lst ys)] (fun p hp => hp) (RL.mk (.head _) (RfAll.ints hI))
    · (rename Fr _ _ _ _ => F7)
      with_unfolding_all refine while_inv (fun n m nx => ∃ us k ns, m = _ ∧ nx = [(D, listOf (List.toArray us) k)] ∧ IntsAre us ns ∧ us.length = n ∧ trimR ns = trimR (nz (ws.map (·.2.2.2))) ∧ us.length ≤ 100) ys.length F7 N8 ⟨ys, _, _, rfl, rfl, hI, rfl, rfl, hln⟩ ?_
      intro n m nx h8 tk8 hp9a F6 N6
      ((try with_reducible show wpAny _ _ _ _ _ _); (try k_fold))
      obtain ⟨us, k, ns, rfl, rfl, hI8, hn8, ht8, hl8⟩ := hp9a
      clear hI hln N8 F7
      rcases List.eq_nil_or_concat ns with rfl | ⟨ms, x9, rfl⟩
      · cases hI8
        (try k_fold)
        k_steps
        (rename Fr _ _ _ _ => F5); (rename News _ _ _ _ => N5)
        with_unfolding_all refine RetB.fin F5 N5 _ (fun p hp => hp) (RL.mk (ds := (fourthS .st ws).map .int) (.tail _ (.head _)) ?_)
        rw [show fourthS .st ws = [] from ht8.symm]; exact .nil
      · rw [List.concat_eq_append] at hI8 ht8
        have hln9 : (ms ++ [x9]).length ≤ 100 := by rw [← hI8.length]; exact hl8
        have hpos : 0 < us.length := by rw [hI8.length]; simp
        (try k_fold)
        k_steps
        · exfalso; (rename decide _ = true => ha); simp at ha
        · (rename Fr _ _ _ _ => F5); (rename News _ _ _ _ => N5); (rename IntsAre _ _ => hI5)
          rw [trimR_snoc, if_pos (by omega)] at ht8
          rw [List.dropLast_concat] at hI5
          with_unfolding_all exact ⟨us.dropLast.length, _, _, _, _, by rw [List.length_dropLast]; omega, rfl, F5, fun p hp => N5 p (.tail _ hp), us.dropLast, _, ms, rfl, rfl, hI5, rfl, ht8, by rw [List.length_dropLast]; omega⟩
        · (rename Fr _ _ _ _ => F5); (rename News _ _ _ _ => N5)
          with_unfolding_all refine RetB.fin F5 N5 _ (fun p hp => hp) (RL.mk (ds := (fourthS .st ws).map .int) (.tail _ (.head _)) ?_)
          rw [trimR_snoc, if_neg (by omega)] at ht8
          rw [show fourthS .st ws = _ from ht8.symm]; exact RfAll.ints hI8
end

section
theorem top_off_C10 : True := by
  w_top off
  exact trivial
def lev1 (ws : List Row) : List Int := nz (ws.map (·.1))
def lev2 (bw : Bool) (ws : List Row) : List Int := if bw then (nz (ws.map (·.2.1))).reverse else nz (ws.map (·.2.1))
def lev3 (ws : List Row) : List Int := nz (ws.map (·.2.2.1))
def levelsS (how : How) (str : Int) (bw : Bool) (ws : List Row) : List (List Int) :=
  lev1 ws :: ((if str ≥ 2 then [lev2 bw ws] else []) ++ ((if str ≥ 3 then [lev3 ws] else []) ++ (if str ≥ 4 then [fourthS how ws] else [])))
theorem ne_ext {D : Addr} {o : Obj} {rest tl : List (Addr × Obj)} (h : ∀ p ∈ rest, p.1 ≠ D) (of : OwnOff tl (((D, o) :: rest).map (·.1))) : ∀ p ∈ rest ++ tl, p.1 ≠ D := fun p hp => (List.mem_append.mp hp).elim (h p) fun q => of p q D (.head _)
theorem allLt_ne {D : Addr} {l : List (Addr × Obj)} (h : AllLt D l) : ∀ p ∈ l, p.1 ≠ D := fun p hp => Nat.ne_of_lt (ktn_ltOf h p hp)
set_option maxHeartbeats 16000000 in
theorem con_levels (how : How) (str : Int) (bw : Bool) (ws : List Row) (hws : ws.length ≤ 100) : Con 99 2 (fun h vs => ∃ v o, vs = [v, o] ∧ Rd h v (.list (ws.map rP)) ∧ OptAt h o how str bw) (fun tl r => RLL tl r (levelsS how str bw ws)) := by
  unfold Con; k_fill
  intro w mean mg mb dp un gd cn cs a ccd cl outer A₀ base h₀ L m news s vs Q E B F X N T hk hP hd hu hret
  obtain ⟨v0, o0, rfl, hP⟩ := hP
  refine wpAny_call ?_
  k_dflt (refine' code_defB (binds := [((Str.ofString "weights"), v0), ((Str.ofString "options"), o0)]) ?k1 ?k2 ?k3 ?k5 ?kA ?kF ?kK ?k6 ?k7 ?k8 ?k9 ?kB ?_ ?c2 ?c3 ?c4 ?c5; (case kA => exact rfl); (case kF => exact rfl); (case kK => assumption); (case k1 => k_asm); (case k2 => k_asm); (case k3 => k_asm); (case k5 => k_asm); (case k6 => k_is); (case k7 => k_is); (case k8 => first | exact room_0 hd | (dsimp only [ktrTop]; omega)); (case k9 => first | exact BindsTo.of_eq rfl | exact binds_K (by k_in) rfl (by k_is) rfl rfl rfl); (case c5 => decide); (case kB => exact locs rfl); (case c2 => exact rfl); (case c3 => exact rfl); (case c4 => exact rfl); k_whole)
  intro g L' h₁ eg F' N' B' X' T'
  refine wpAny_mono (E := fun _ _ => False) (Q := fun fl s' => RetB g L' s (fun tl r => RLL tl r (levelsS how str bw ws)) (match fl with | .ret v => v | _ => .none) s') ?_ (fun fl s' h => RetB.back eg F N hret h) (fun _ _ h => False.elim h)
  clear hret F N X T B
  dsimp only [List.reverse_cons, List.reverse_nil, List.nil_append, List.cons_append, List.reverse, List.reverseAux] at F'
  (try rw [← eg] at hP); clear eg
  obtain ⟨hP, hO⟩ := hP
  have hO' := hO
  obtain ⟨x, ox, es, n, t1, t2, t3, fa, u1, u2, u3, rfl, I, a1, a2, a3, a4, a5, a6, a7, T⟩ := hO'
  obtain ⟨l, hv0⟩ : ∃ l, v0 = .ref l := by obtain ⟨a, l, e, _⟩ := rd_list hP; exact ⟨a, e⟩
  subst hv0
  (with_reducible show wpAny _ _ _ _ _ _); (try k_fold)
  (repeat' ((((fail_if_success (with_reducible show wpAny _ _ (isTrue (Expr.BoolOp _ _ _) _ _) _ _ _)); (((fail_if_success (with_reducible show wpAny _ _ (call (Value.ref _) _) _ _ _)); (fail_if_success (with_reducible show wpAny _ _ (exec (Stmt.While _ _ _ _) _) _ _ _)))))); (first | (k_unfold; (try dsimp only)) | (k_end; wrow_close) | walk1 | (dsimp only; walk1) | (leave1; walk_say "STEP leave1"; try dsimp only) | fail "no step")))
  with_unfolding_all refine' Con.use (con_first how str bw ws hws) ?k1 ?k2 ?k3 ?k4 ?k5 ?kK ?kP ?kd ?ku ?_
  (((((case k1 => k_asm); (case k2 => k_asm); (case k3 => k_asm); (case k4 => k_asm); (case k5 => k_asm); (case kK => first | exact rfl | assumption))); (case kd => first | exact room_d hd (by decide) | (dsimp only [ktrTop]; simp only [recursionLimit] at *; omega)); (case ku => first | exact room_u hu (by decide) | (dsimp only [ktrTop]; simp only [cLine] at *; omega))))
  case kP => exact ⟨_, _, rfl, hP.keeps (Fr.keep (by k_asm)), hO.keeps (Fr.keep (by k_asm))⟩
  intro r1 tl1 h9 tk9 F1 N1 of1 P1
  simp only [List.nil_append] at N1
  by_cases s2 : str ≥ 2
  · (repeat' ((((fail_if_success (with_reducible show wpAny _ _ (isTrue (Expr.BoolOp _ _ _) _ _) _ _ _)); (((fail_if_success (with_reducible show wpAny _ _ (call (Value.ref _) _) _ _ _)); (fail_if_success (with_reducible show wpAny _ _ (exec (Stmt.While _ _ _ _) _) _ _ _)))))); (first | (k_unfold; (try dsimp only)) | (k_end; wrow_close) | walk1 | (dsimp only; walk1) | (leave1; walk_say "STEP leave1"; try dsimp only) | fail "no step")))
    with_unfolding_all refine' Con.use (con_second how str bw ws hws) ?k1 ?k2 ?k3 ?k4 ?k5 ?kK ?kP ?kd ?ku ?_
    (((((case k1 => k_asm); (case k2 => k_asm); (case k3 => k_asm); (case k4 => k_asm); (case k5 => k_asm); (case kK => first | exact rfl | assumption))); (case kd => first | exact room_d hd (by decide) | (dsimp only [ktrTop]; simp only [recursionLimit] at *; omega)); (case ku => first | exact room_u hu (by decide) | (dsimp only [ktrTop]; simp only [cLine] at *; omega))))
    case kP => exact ⟨_, _, rfl, hP.keeps (Fr.keep (by k_asm)), hO.keeps (Fr.keep (by k_asm))⟩
    intro r2 tl2 h9 tk9 F2 N2 of2 P2
    simp only [List.cons_append, List.nil_append] at N2
    (rename ∀ (p : Addr × Obj), p ∈ tl1 → p.1 < _ => l1)
    have ne1 := fun p hp => Nat.ne_of_lt (l1 p hp)
    have ne2 := ne_ext ne1 of2
    by_cases s3 : str ≥ 3
    · (repeat' ((((fail_if_success (with_reducible show wpAny _ _ (isTrue (Expr.BoolOp _ _ _) _ _) _ _ _)); (((fail_if_success (with_reducible show wpAny _ _ (call (Value.ref _) _) _ _ _)); (fail_if_success (with_reducible show wpAny _ _ (exec (Stmt.While _ _ _ _) _) _ _ _)))))); (first | (k_unfold; (try dsimp only)) | (k_end; wrow_close) | walk1 | (dsimp only; walk1) | (leave1; walk_say "STEP leave1"; try dsimp only) | fail "no step")))
      with_unfolding_all refine' Con.use (con_third how str bw ws hws) ?k1 ?k2 ?k3 ?k4 ?k5 ?kK ?kP ?kd ?ku ?_
      (((((case k1 => k_asm); (case k2 => k_asm); (case k3 => k_asm); (case k4 => k_asm); (case k5 => k_asm); (case kK => first | exact rfl | assumption))); (case kd => first | exact room_d hd (by decide) | (dsimp only [ktrTop]; simp only [recursionLimit] at *; omega)); (case ku => first | exact room_u hu (by decide) | (dsimp only [ktrTop]; simp only [cLine] at *; omega))))
      case kP => exact ⟨_, _, rfl, hP.keeps (Fr.keep (by k_asm)), hO.keeps (Fr.keep (by k_asm))⟩
      intro r3 tl3 h9 tk9 F3 N3 of3 P3
      simp only [List.cons_append, List.nil_append] at N3
      have ne3 := ne_ext ne2 of3
      by_cases s4 : str ≥ 4
      · (repeat' ((((fail_if_success (with_reducible show wpAny _ _ (isTrue (Expr.BoolOp _ _ _) _ _) _ _ _)); (((fail_if_success (with_reducible show wpAny _ _ (call (Value.ref _) _) _ _ _)); (fail_if_success (with_reducible show wpAny _ _ (exec (Stmt.While _ _ _ _) _) _ _ _)))))); (first | (k_unfold; (try dsimp only)) | (k_end; wrow_close) | walk1 | (dsimp only; walk1) | (leave1; walk_say "STEP leave1"; try dsimp only) | fail "no step")))
        with_unfolding_all refine' Con.use (con_fourth how str bw ws hws) ?k1 ?k2 ?k3 ?k4 ?k5 ?kK ?kP ?kd ?ku ?_
        (((((case k1 => k_asm); (case k2 => k_asm); (case k3 => k_asm); (case k4 => k_asm); (case k5 => k_asm); (case kK => first | exact rfl | assumption))); (case kd => first | exact room_d hd (by decide) | (dsimp only [ktrTop]; simp only [recursionLimit] at *; omega)); (case ku => first | exact room_u hu (by decide) | (dsimp only [ktrTop]; simp only [cLine] at *; omega))))
        case kP => exact ⟨_, _, rfl, hP.keeps (Fr.keep (by k_asm)), hO.keeps (Fr.keep (by k_asm))⟩
        intro r4 tl4 h9 tk9 F4 N4 of4 P4
        simp only [List.cons_append, List.nil_append] at N4
        have ne4 := ne_ext ne3 of4
        (repeat' ((((fail_if_success (with_reducible show wpAny _ _ (isTrue (Expr.BoolOp _ _ _) _ _) _ _ _)); (((fail_if_success (with_reducible show wpAny _ _ (call (Value.ref _) _) _ _ _)); (fail_if_success (with_reducible show wpAny _ _ (exec (Stmt.While _ _ _ _) _) _ _ _)))))); (first | (k_unfold; (try dsimp only)) | (k_end; wrow_close) | walk1 | (dsimp only; walk1) | (leave1; walk_say "STEP leave1"; try dsimp only) | fail "no step")))
        (rename Fr _ _ _ _ => F9); (rename News _ _ _ _ => N9)
        with_unfolding_all refine RetB.fin F9 N9 _ (fun p hp => hp) (RLL.mk (ls := levelsS how str bw ws) (.head _) ?_)
        simp only [levelsS, s2, s3, s4, if_true, List.cons_append, List.nil_append, List.map_cons, List.map_nil]
        refine .cons (P1.mono ?_) (.cons (P2.mono ?_) (.cons (P3.mono ?_) (.cons (P4.mono ?_) .nil)))
        all_goals (intro p hp; simp only [List.mem_cons, List.mem_append, hp, true_or, or_true])
      · (repeat' ((((fail_if_success (with_reducible show wpAny _ _ (isTrue (Expr.BoolOp _ _ _) _ _) _ _ _)); (((fail_if_success (with_reducible show wpAny _ _ (call (Value.ref _) _) _ _ _)); (fail_if_success (with_reducible show wpAny _ _ (exec (Stmt.While _ _ _ _) _) _ _ _)))))); (first | (k_unfold; (try dsimp only)) | (k_end; wrow_close) | walk1 | (dsimp only; walk1) | (leave1; walk_say "STEP leave1"; try dsimp only) | fail "no step")))
        (rename Fr _ _ _ _ => F9); (rename News _ _ _ _ => N9)
        with_unfolding_all refine RetB.fin F9 N9 _ (fun p hp => hp) (RLL.mk (ls := levelsS how str bw ws) (.head _) ?_)
        simp only [levelsS, s2, s3, s4, if_true, if_false, List.cons_append, List.nil_append, List.map_cons, List.map_nil]
        refine .cons (P1.mono ?_) (.cons (P2.mono ?_) (.cons (P3.mono ?_) .nil))
        all_goals (intro p hp; simp only [List.mem_cons, List.mem_append, hp, true_or, or_true])
    · have s4 : ¬ str ≥ 4 := by omega
      (repeat' ((((fail_if_success (with_reducible show wpAny _ _ (isTrue (Expr.BoolOp _ _ _) _ _) _ _ _)); (((fail_if_success (with_reducible show wpAny _ _ (call (Value.ref _) _) _ _ _)); (fail_if_success (with_reducible show wpAny _ _ (exec (Stmt.While _ _ _ _) _) _ _ _)))))); (first | (k_unfold; (try dsimp only)) | (k_end; wrow_close) | walk1 | (dsimp only; walk1) | (leave1; walk_say "STEP leave1"; try dsimp only) | fail "no step")))
      (rename Fr _ _ _ _ => F9); (rename News _ _ _ _ => N9)
      with_unfolding_all refine RetB.fin F9 N9 _ (fun p hp => hp) (RLL.mk (ls := levelsS how str bw ws) (.head _) ?_)
      simp only [levelsS, s2, s3, s4, if_true, if_false, List.cons_append, List.nil_append, List.map_cons, List.map_nil]
      refine .cons (P1.mono ?_) (.cons (P2.mono ?_) .nil)
      all_goals (intro p hp; simp only [List.mem_cons, List.mem_append, hp, true_or, or_true])
  · have s3 : ¬ str ≥ 3 := by omega
    have s4 : ¬ str ≥ 4 := by omega
    (repeat' ((((fail_if_success (with_reducible show wpAny _ _ (isTrue (Expr.BoolOp _ _ _) _ _) _ _ _)); (((fail_if_success (with_reducible show wpAny _ _ (call (Value.ref _) _) _ _ _)); (fail_if_success (with_reducible show wpAny _ _ (exec (Stmt.While _ _ _ _) _) _ _ _)))))); (first | (k_unfold; (try dsimp only)) | (k_end; wrow_close) | walk1 | (dsimp only; walk1) | (leave1; walk_say "STEP leave1"; try dsimp only) | fail "no step")))
    (rename Fr _ _ _ _ => F9); (rename News _ _ _ _ => N9)
    with_unfolding_all refine RetB.fin F9 N9 _ (fun p hp => hp) (RLL.mk (ls := levelsS how str bw ws) (.head _) ?_)
    simp only [levelsS, s2, s3, s4, if_true, if_false, List.cons_append, List.nil_append, List.map_cons, List.map_nil]
    refine .cons (P1.mono ?_) .nil
    all_goals (intro p hp; simp only [List.mem_cons, List.mem_append, hp, true_or, or_true])
end

section
theorem top_off_C11 : True := by
  w_top off
  exact trivial
local macro_rules | `(tactic| walk_at "subscriptTail Name Name ref int") => `(tactic| (k_here; (with_unfolding_all refine' list_at ?l ?k ?h1 ?h2 ?_ ?hs; (case l => exact isListN (by k_asm) (by k_mem)); (case k => exact .inl ⟨by decide, rfl⟩); (case h1 => decide); (case h2 => decide); (case hs => with_unfolding_all rfl))))
def LvP (o : Option (List Int)) (tl : List (Addr × Obj)) (r : Value) : Prop := match o with
  | none => r = .none
  | some l => Rf tl r (lP l)
set_option maxHeartbeats 16000000 in
theorem con_level (how : How) (str : Int) (bw : Bool) (ws : List Row) (hws : ws.length ≤ 100) (hs : 1 ≤ str ∧ str ≤ 4) (kk : Int) (hk0 : 0 ≤ kk) : Con 106 2 (fun h vs => ∃ v t o, vs = [v, .int kk t, o] ∧ Rd h v (.list (ws.map rP)) ∧ OptAt h o how str bw) (fun tl r => LvP ((levelsS how str bw ws)[kk.toNat]?) tl r) := by
  unfold Con; k_fill
  intro w mean mg mb dp un gd cn cs a ccd cl outer A₀ base h₀ L m news s vs Q E B F X N T hk hP hd hu hret
  obtain ⟨v0, t0, o0, rfl, hP⟩ := hP
  refine wpAny_call ?_
  k_dflt (refine' code_defB (binds := [((Str.ofString "weights"), v0), ((Str.ofString "number"), .int kk t0), ((Str.ofString "options"), o0)]) ?k1 ?k2 ?k3 ?k5 ?kA ?kF ?kK ?k6 ?k7 ?k8 ?k9 ?kB ?_ ?c2 ?c3 ?c4 ?c5; (case kA => exact rfl); (case kF => exact rfl); (case kK => assumption); (case k1 => k_asm); (case k2 => k_asm); (case k3 => k_asm); (case k5 => k_asm); (case k6 => k_is); (case k7 => k_is); (case k8 => first | exact room_0 hd | (dsimp only [ktrTop]; omega)); (case k9 => first | exact BindsTo.of_eq rfl | exact binds_K (by k_in) rfl (by k_is) rfl rfl rfl); (case c5 => decide); (case kB => exact locs rfl); (case c2 => exact rfl); (case c3 => exact rfl); (case c4 => exact rfl); k_whole)
  intro g L' h₁ eg F' N' B' X' T'
  refine wpAny_mono (E := fun _ _ => False) (Q := fun fl s' => RetB g L' s (fun tl r => LvP ((levelsS how str bw ws)[kk.toNat]?) tl r) (match fl with | .ret v => v | _ => .none) s') ?_ (fun fl s' h => RetB.back eg F N hret h) (fun _ _ h => False.elim h)
  clear hret F N X T B
  dsimp only [List.reverse_cons, List.reverse_nil, List.nil_append, List.cons_append, List.reverse, List.reverseAux] at F'
  (try rw [← eg] at hP); clear eg
  obtain ⟨hP, hO⟩ := hP
  have hO' := hO
  obtain ⟨x, ox, es, n, t1, t2, t3, fa, u1, u2, u3, rfl, I, a1, a2, a3, a4, a5, a6, a7, T⟩ := hO'
  obtain ⟨l, hv0⟩ : ∃ l, v0 = .ref l := by obtain ⟨a, l, e, _⟩ := rd_list hP; exact ⟨a, e⟩
  subst hv0
  clear a1 a3 a4 a6 a7 T
  have hc : str = 1 ∨ str = 2 ∨ str = 3 ∨ str = 4 := by omega
  have fin : ∀ (o : Option (List Int)) (h' : Heap) (tk' : Nat) (m' : Str → Option Value) (nw tl : List (Addr × Obj)) (r : Value), Fr g L' h' m' → News g L' h' nw → (∀ p ∈ tl, p ∈ nw) → (levelsS how str bw ws)[kk.toNat]? = o → LvP o tl r → RetB g L' s (fun tl r => LvP ((levelsS how str bw ws)[kk.toNat]?) tl r) r { s with heap := h', toks := tk' } := by
    intro o h' tk' m' nw tl r F9 N9 hs9 e9 p9
    exact RetB.fin F9 N9 tl hs9 (by rw [e9]; exact p9)
  rcases hc with rfl | rfl | rfl | rfl
  · (with_reducible show wpAny _ _ _ _ _ _); (try k_fold)
    repeat' ((fail_if_success (with_reducible show wpAny _ _ (compareOp _ (Value.int kk _) _) _ _ _)); (((fail_if_success (with_reducible show wpAny _ _ (isTrue (Expr.BoolOp _ _ _) _ _) _ _ _)); (((fail_if_success (with_reducible show wpAny _ _ (call (Value.ref _) _) _ _ _)); (fail_if_success (with_reducible show wpAny _ _ (exec (Stmt.While _ _ _ _) _) _ _ _)))))); (first | (k_unfold; (try dsimp only)) | (k_end; wrow_close) | walk1 | (dsimp only; walk1) | (leave1; walk_say "STEP leave1"; try dsimp only) | fail "no step"))
    by_cases hk : kk ≥ 1
    · skip
      (repeat' ((((fail_if_success (with_reducible show wpAny _ _ (isTrue (Expr.BoolOp _ _ _) _ _) _ _ _)); (((fail_if_success (with_reducible show wpAny _ _ (call (Value.ref _) _) _ _ _)); (fail_if_success (with_reducible show wpAny _ _ (exec (Stmt.While _ _ _ _) _) _ _ _)))))); (first | (k_unfold; (try dsimp only)) | (k_end; wrow_close) | walk1 | (dsimp only; walk1) | (leave1; walk_say "STEP leave1"; try dsimp only) | fail "no step")))
      (rename Fr _ _ _ _ => F9); (rename News _ _ _ _ => N9)
      with_unfolding_all exact fin none _ _ _ _ [] _ F9 N9 (List.forall_mem_nil _) (by rw [List.getElem?_eq_none]; simp [levelsS]; omega) rfl
    · obtain rfl : kk = 0 := by omega
      skip
      (repeat' ((((fail_if_success (with_reducible show wpAny _ _ (isTrue (Expr.BoolOp _ _ _) _ _) _ _ _)); (((fail_if_success (with_reducible show wpAny _ _ (call (Value.ref _) _) _ _ _)); (fail_if_success (with_reducible show wpAny _ _ (exec (Stmt.While _ _ _ _) _) _ _ _)))))); (first | (k_unfold; (try dsimp only)) | (k_end; wrow_close) | walk1 | (dsimp only; walk1) | (leave1; walk_say "STEP leave1"; try dsimp only) | fail "no step")))
      with_unfolding_all refine' Con.use (con_first how 1 bw ws hws) ?k1 ?k2 ?k3 ?k4 ?k5 ?kK ?kP ?kd ?ku ?_
      (((((case k1 => k_asm); (case k2 => k_asm); (case k3 => k_asm); (case k4 => k_asm); (case k5 => k_asm); (case kK => first | exact rfl | assumption))); (case kd => first | exact room_d hd (by decide) | (dsimp only [ktrTop]; simp only [recursionLimit] at *; omega)); (case ku => first | exact room_u hu (by decide) | (dsimp only [ktrTop]; simp only [cLine] at *; omega))))
      case kP => exact ⟨_, _, rfl, hP.keeps (Fr.keep (by k_asm)), hO.keeps (Fr.keep (by k_asm))⟩
      intro r1 tl1 h9 tk9 F1 N1 of1 P1
      (repeat' ((((fail_if_success (with_reducible show wpAny _ _ (isTrue (Expr.BoolOp _ _ _) _ _) _ _ _)); (((fail_if_success (with_reducible show wpAny _ _ (call (Value.ref _) _) _ _ _)); (fail_if_success (with_reducible show wpAny _ _ (exec (Stmt.While _ _ _ _) _) _ _ _)))))); (first | (k_unfold; (try dsimp only)) | (k_end; wrow_close) | walk1 | (dsimp only; walk1) | (leave1; walk_say "STEP leave1"; try dsimp only) | fail "no step")))
      with_unfolding_all exact fin (some (lev1 ws)) _ _ _ _ tl1 _ F1 N1 (fun p hp => List.mem_append.mpr (.inr hp)) (by simp [levelsS]) P1.rf
  · (with_reducible show wpAny _ _ _ _ _ _); (try k_fold)
    repeat' ((fail_if_success (with_reducible show wpAny _ _ (compareOp _ (Value.int kk _) _) _ _ _)); (((fail_if_success (with_reducible show wpAny _ _ (isTrue (Expr.BoolOp _ _ _) _ _) _ _ _)); (((fail_if_success (with_reducible show wpAny _ _ (call (Value.ref _) _) _ _ _)); (fail_if_success (with_reducible show wpAny _ _ (exec (Stmt.While _ _ _ _) _) _ _ _)))))); (first | (k_unfold; (try dsimp only)) | (k_end; wrow_close) | walk1 | (dsimp only; walk1) | (leave1; walk_say "STEP leave1"; try dsimp only) | fail "no step"))
    by_cases hk : kk ≥ 2
    · skip
      (repeat' ((((fail_if_success (with_reducible show wpAny _ _ (isTrue (Expr.BoolOp _ _ _) _ _) _ _ _)); (((fail_if_success (with_reducible show wpAny _ _ (call (Value.ref _) _) _ _ _)); (fail_if_success (with_reducible show wpAny _ _ (exec (Stmt.While _ _ _ _) _) _ _ _)))))); (first | (k_unfold; (try dsimp only)) | (k_end; wrow_close) | walk1 | (dsimp only; walk1) | (leave1; walk_say "STEP leave1"; try dsimp only) | fail "no step")))
      (rename Fr _ _ _ _ => F9); (rename News _ _ _ _ => N9)
      with_unfolding_all exact fin none _ _ _ _ [] _ F9 N9 (List.forall_mem_nil _) (by rw [List.getElem?_eq_none]; simp [levelsS]; omega) rfl
    · have hc : kk = 0 ∨ kk = 1 := by omega
      rcases hc with rfl | rfl
      · skip
        (repeat' ((((fail_if_success (with_reducible show wpAny _ _ (isTrue (Expr.BoolOp _ _ _) _ _) _ _ _)); (((fail_if_success (with_reducible show wpAny _ _ (call (Value.ref _) _) _ _ _)); (fail_if_success (with_reducible show wpAny _ _ (exec (Stmt.While _ _ _ _) _) _ _ _)))))); (first | (k_unfold; (try dsimp only)) | (k_end; wrow_close) | walk1 | (dsimp only; walk1) | (leave1; walk_say "STEP leave1"; try dsimp only) | fail "no step")))
        with_unfolding_all refine' Con.use (con_first how 2 bw ws hws) ?k1 ?k2 ?k3 ?k4 ?k5 ?kK ?kP ?kd ?ku ?_
        (((((case k1 => k_asm); (case k2 => k_asm); (case k3 => k_asm); (case k4 => k_asm); (case k5 => k_asm); (case kK => first | exact rfl | assumption))); (case kd => first | exact room_d hd (by decide) | (dsimp only [ktrTop]; simp only [recursionLimit] at *; omega)); (case ku => first | exact room_u hu (by decide) | (dsimp only [ktrTop]; simp only [cLine] at *; omega))))
        case kP => exact ⟨_, _, rfl, hP.keeps (Fr.keep (by k_asm)), hO.keeps (Fr.keep (by k_asm))⟩
        intro r1 tl1 h9 tk9 F1 N1 of1 P1
        (repeat' ((((fail_if_success (with_reducible show wpAny _ _ (isTrue (Expr.BoolOp _ _ _) _ _) _ _ _)); (((fail_if_success (with_reducible show wpAny _ _ (call (Value.ref _) _) _ _ _)); (fail_if_success (with_reducible show wpAny _ _ (exec (Stmt.While _ _ _ _) _) _ _ _)))))); (first | (k_unfold; (try dsimp only)) | (k_end; wrow_close) | walk1 | (dsimp only; walk1) | (leave1; walk_say "STEP leave1"; try dsimp only) | fail "no step")))
        with_unfolding_all exact fin (some (lev1 ws)) _ _ _ _ tl1 _ F1 N1 (fun p hp => List.mem_append.mpr (.inr hp)) (by simp [levelsS]) P1.rf
      · skip
        (repeat' ((((fail_if_success (with_reducible show wpAny _ _ (isTrue (Expr.BoolOp _ _ _) _ _) _ _ _)); (((fail_if_success (with_reducible show wpAny _ _ (call (Value.ref _) _) _ _ _)); (fail_if_success (with_reducible show wpAny _ _ (exec (Stmt.While _ _ _ _) _) _ _ _)))))); (first | (k_unfold; (try dsimp only)) | (k_end; wrow_close) | walk1 | (dsimp only; walk1) | (leave1; walk_say "STEP leave1"; try dsimp only) | fail "no step")))
        with_unfolding_all refine' Con.use (con_second how 2 bw ws hws) ?k1 ?k2 ?k3 ?k4 ?k5 ?kK ?kP ?kd ?ku ?_
        (((((case k1 => k_asm); (case k2 => k_asm); (case k3 => k_asm); (case k4 => k_asm); (case k5 => k_asm); (case kK => first | exact rfl | assumption))); (case kd => first | exact room_d hd (by decide) | (dsimp only [ktrTop]; simp only [recursionLimit] at *; omega)); (case ku => first | exact room_u hu (by decide) | (dsimp only [ktrTop]; simp only [cLine] at *; omega))))
        case kP => exact ⟨_, _, rfl, hP.keeps (Fr.keep (by k_asm)), hO.keeps (Fr.keep (by k_asm))⟩
        intro r1 tl1 h9 tk9 F1 N1 of1 P1
        (repeat' ((((fail_if_success (with_reducible show wpAny _ _ (isTrue (Expr.BoolOp _ _ _) _ _) _ _ _)); (((fail_if_success (with_reducible show wpAny _ _ (call (Value.ref _) _) _ _ _)); (fail_if_success (with_reducible show wpAny _ _ (exec (Stmt.While _ _ _ _) _) _ _ _)))))); (first | (k_unfold; (try dsimp only)) | (k_end; wrow_close) | walk1 | (dsimp only; walk1) | (leave1; walk_say "STEP leave1"; try dsimp only) | fail "no step")))
        with_unfolding_all exact fin (some (lev2 bw ws)) _ _ _ _ tl1 _ F1 N1 (fun p hp => List.mem_append.mpr (.inr hp)) (by simp [levelsS]) P1.rf
  · (with_reducible show wpAny _ _ _ _ _ _); (try k_fold)
    repeat' ((fail_if_success (with_reducible show wpAny _ _ (compareOp _ (Value.int kk _) _) _ _ _)); (((fail_if_success (with_reducible show wpAny _ _ (isTrue (Expr.BoolOp _ _ _) _ _) _ _ _)); (((fail_if_success (with_reducible show wpAny _ _ (call (Value.ref _) _) _ _ _)); (fail_if_success (with_reducible show wpAny _ _ (exec (Stmt.While _ _ _ _) _) _ _ _)))))); (first | (k_unfold; (try dsimp only)) | (k_end; wrow_close) | walk1 | (dsimp only; walk1) | (leave1; walk_say "STEP leave1"; try dsimp only) | fail "no step"))
    by_cases hk : kk ≥ 3
    · skip
      (repeat' ((((fail_if_success (with_reducible show wpAny _ _ (isTrue (Expr.BoolOp _ _ _) _ _) _ _ _)); (((fail_if_success (with_reducible show wpAny _ _ (call (Value.ref _) _) _ _ _)); (fail_if_success (with_reducible show wpAny _ _ (exec (Stmt.While _ _ _ _) _) _ _ _)))))); (first | (k_unfold; (try dsimp only)) | (k_end; wrow_close) | walk1 | (dsimp only; walk1) | (leave1; walk_say "STEP leave1"; try dsimp only) | fail "no step")))
      (rename Fr _ _ _ _ => F9); (rename News _ _ _ _ => N9)
      with_unfolding_all exact fin none _ _ _ _ [] _ F9 N9 (List.forall_mem_nil _) (by rw [List.getElem?_eq_none]; simp [levelsS]; omega) rfl
    · have hc : kk = 0 ∨ kk = 1 ∨ kk = 2 := by omega
      rcases hc with rfl | rfl | rfl
      · skip
        (repeat' ((((fail_if_success (with_reducible show wpAny _ _ (isTrue (Expr.BoolOp _ _ _) _ _) _ _ _)); (((fail_if_success (with_reducible show wpAny _ _ (call (Value.ref _) _) _ _ _)); (fail_if_success (with_reducible show wpAny _ _ (exec (Stmt.While _ _ _ _) _) _ _ _)))))); (first | (k_unfold; (try dsimp only)) | (k_end; wrow_close) | walk1 | (dsimp only; walk1) | (leave1; walk_say "STEP leave1"; try dsimp only) | fail "no step")))
        with_unfolding_all refine' Con.use (con_first how 3 bw ws hws) ?k1 ?k2 ?k3 ?k4 ?k5 ?kK ?kP ?kd ?ku ?_
        (((((case k1 => k_asm); (case k2 => k_asm); (case k3 => k_asm); (case k4 => k_asm); (case k5 => k_asm); (case kK => first | exact rfl | assumption))); (case kd => first | exact room_d hd (by decide) | (dsimp only [ktrTop]; simp only [recursionLimit] at *; omega)); (case ku => first | exact room_u hu (by decide) | (dsimp only [ktrTop]; simp only [cLine] at *; omega))))
        case kP => exact ⟨_, _, rfl, hP.keeps (Fr.keep (by k_asm)), hO.keeps (Fr.keep (by k_asm))⟩
        intro r1 tl1 h9 tk9 F1 N1 of1 P1
        (repeat' ((((fail_if_success (with_reducible show wpAny _ _ (isTrue (Expr.BoolOp _ _ _) _ _) _ _ _)); (((fail_if_success (with_reducible show wpAny _ _ (call (Value.ref _) _) _ _ _)); (fail_if_success (with_reducible show wpAny _ _ (exec (Stmt.While _ _ _ _) _) _ _ _)))))); (first | (k_unfold; (try dsimp only)) | (k_end; wrow_close) | walk1 | (dsimp only; walk1) | (leave1; walk_say "STEP leave1"; try dsimp only) | fail "no step")))
        with_unfolding_all exact fin (some (lev1 ws)) _ _ _ _ tl1 _ F1 N1 (fun p hp => List.mem_append.mpr (.inr hp)) (by simp [levelsS]) P1.rf
      · skip
        (repeat' ((((fail_if_success (with_reducible show wpAny _ _ (isTrue (Expr.BoolOp _ _ _) _ _) _ _ _)); (((fail_if_success (with_reducible show wpAny _ _ (call (Value.ref _) _) _ _ _)); (fail_if_success (with_reducible show wpAny _ _ (exec (Stmt.While _ _ _ _) _) _ _ _)))))); (first | (k_unfold; (try dsimp only)) | (k_end; wrow_close) | walk1 | (dsimp only; walk1) | (leave1; walk_say "STEP leave1"; try dsimp only) | fail "no step")))
        with_unfolding_all refine' Con.use (con_second how 3 bw ws hws) ?k1 ?k2 ?k3 ?k4 ?k5 ?kK ?kP ?kd ?ku ?_
        (((((case k1 => k_asm); (case k2 => k_asm); (case k3 => k_asm); (case k4 => k_asm); (case k5 => k_asm); (case kK => first | exact rfl | assumption))); (case kd => first | exact room_d hd (by decide) | (dsimp only [ktrTop]; simp only [recursionLimit] at *; omega)); (case ku => first | exact room_u hu (by decide) | (dsimp only [ktrTop]; simp only [cLine] at *; omega))))
        case kP => exact ⟨_, _, rfl, hP.keeps (Fr.keep (by k_asm)), hO.keeps (Fr.keep (by k_asm))⟩
        intro r1 tl1 h9 tk9 F1 N1 of1 P1
        (repeat' ((((fail_if_success (with_reducible show wpAny _ _ (isTrue (Expr.BoolOp _ _ _) _ _) _ _ _)); (((fail_if_success (with_reducible show wpAny _ _ (call (Value.ref _) _) _ _ _)); (fail_if_success (with_reducible show wpAny _ _ (exec (Stmt.While _ _ _ _) _) _ _ _)))))); (first | (k_unfold; (try dsimp only)) | (k_end; wrow_close) | walk1 | (dsimp only; walk1) | (leave1; walk_say "STEP leave1"; try dsimp only) | fail "no step")))
        with_unfolding_all exact fin (some (lev2 bw ws)) _ _ _ _ tl1 _ F1 N1 (fun p hp => List.mem_append.mpr (.inr hp)) (by simp [levelsS]) P1.rf
      · skip
        (repeat' ((((fail_if_success (with_reducible show wpAny _ _ (isTrue (Expr.BoolOp _ _ _) _ _) _ _ _)); (((fail_if_success (with_reducible show wpAny _ _ (call (Value.ref _) _) _ _ _)); (fail_if_success (with_reducible show wpAny _ _ (exec (Stmt.While _ _ _ _) _) _ _ _)))))); (first | (k_unfold; (try dsimp only)) | (k_end; wrow_close) | walk1 | (dsimp only; walk1) | (leave1; walk_say "STEP leave1"; try dsimp only) | fail "no step")))
        with_unfolding_all refine' Con.use (con_third how 3 bw ws hws) ?k1 ?k2 ?k3 ?k4 ?k5 ?kK ?kP ?kd ?ku ?_
        (((((case k1 => k_asm); (case k2 => k_asm); (case k3 => k_asm); (case k4 => k_asm); (case k5 => k_asm); (case kK => first | exact rfl | assumption))); (case kd => first | exact room_d hd (by decide) | (dsimp only [ktrTop]; simp only [recursionLimit] at *; omega)); (case ku => first | exact room_u hu (by decide) | (dsimp only [ktrTop]; simp only [cLine] at *; omega))))
        case kP => exact ⟨_, _, rfl, hP.keeps (Fr.keep (by k_asm)), hO.keeps (Fr.keep (by k_asm))⟩
        intro r1 tl1 h9 tk9 F1 N1 of1 P1
        (repeat' ((((fail_if_success (with_reducible show wpAny _ _ (isTrue (Expr.BoolOp _ _ _) _ _) _ _ _)); (((fail_if_success (with_reducible show wpAny _ _ (call (Value.ref _) _) _ _ _)); (fail_if_success (with_reducible show wpAny _ _ (exec (Stmt.While _ _ _ _) _) _ _ _)))))); (first | (k_unfold; (try dsimp only)) | (k_end; wrow_close) | walk1 | (dsimp only; walk1) | (leave1; walk_say "STEP leave1"; try dsimp only) | fail "no step")))
        with_unfolding_all exact fin (some (lev3 ws)) _ _ _ _ tl1 _ F1 N1 (fun p hp => List.mem_append.mpr (.inr hp)) (by simp [levelsS]) P1.rf
  · (with_reducible show wpAny _ _ _ _ _ _); (try k_fold)
    repeat' ((fail_if_success (with_reducible show wpAny _ _ (compareOp _ (Value.int kk _) _) _ _ _)); (((fail_if_success (with_reducible show wpAny _ _ (isTrue (Expr.BoolOp _ _ _) _ _) _ _ _)); (((fail_if_success (with_reducible show wpAny _ _ (call (Value.ref _) _) _ _ _)); (fail_if_success (with_reducible show wpAny _ _ (exec (Stmt.While _ _ _ _) _) _ _ _)))))); (first | (k_unfold; (try dsimp only)) | (k_end; wrow_close) | walk1 | (dsimp only; walk1) | (leave1; walk_say "STEP leave1"; try dsimp only) | fail "no step"))
    by_cases hk : kk ≥ 4
    · skip
      (repeat' ((((fail_if_success (with_reducible show wpAny _ _ (isTrue (Expr.BoolOp _ _ _) _ _) _ _ _)); (((fail_if_success (with_reducible show wpAny _ _ (call (Value.ref _) _) _ _ _)); (fail_if_success (with_reducible show wpAny _ _ (exec (Stmt.While _ _ _ _) _) _ _ _)))))); (first | (k_unfold; (try dsimp only)) | (k_end; wrow_close) | walk1 | (dsimp only; walk1) | (leave1; walk_say "STEP leave1"; try dsimp only) | fail "no step")))
      (rename Fr _ _ _ _ => F9); (rename News _ _ _ _ => N9)
      with_unfolding_all exact fin none _ _ _ _ [] _ F9 N9 (List.forall_mem_nil _) (by rw [List.getElem?_eq_none]; simp [levelsS]; omega) rfl
    · have hc : kk = 0 ∨ kk = 1 ∨ kk = 2 ∨ kk = 3 := by omega
      rcases hc with rfl | rfl | rfl | rfl
      · skip
        (repeat' ((((fail_if_success (with_reducible show wpAny _ _ (isTrue (Expr.BoolOp _ _ _) _ _) _ _ _)); (((fail_if_success (with_reducible show wpAny _ _ (call (Value.ref _) _) _ _ _)); (fail_if_success (with_reducible show wpAny _ _ (exec (Stmt.While _ _ _ _) _) _ _ _)))))); (first | (k_unfold; (try dsimp only)) | (k_end; wrow_close) | walk1 | (dsimp only; walk1) | (leave1; walk_say "STEP leave1"; try dsimp only) | fail "no step")))
        with_unfolding_all refine' Con.use (con_first how 4 bw ws hws) ?k1 ?k2 ?k3 ?k4 ?k5 ?kK ?kP ?kd ?ku ?_
        (((((case k1 => k_asm); (case k2 => k_asm); (case k3 => k_asm); (case k4 => k_asm); (case k5 => k_asm); (case kK => first | exact rfl | assumption))); (case kd => first | exact room_d hd (by decide) | (dsimp only [ktrTop]; simp only [recursionLimit] at *; omega)); (case ku => first | exact room_u hu (by decide) | (dsimp only [ktrTop]; simp only [cLine] at *; omega))))
        case kP => exact ⟨_, _, rfl, hP.keeps (Fr.keep (by k_asm)), hO.keeps (Fr.keep (by k_asm))⟩
        intro r1 tl1 h9 tk9 F1 N1 of1 P1
        (repeat' ((((fail_if_success (with_reducible show wpAny _ _ (isTrue (Expr.BoolOp _ _ _) _ _) _ _ _)); (((fail_if_success (with_reducible show wpAny _ _ (call (Value.ref _) _) _ _ _)); (fail_if_success (with_reducible show wpAny _ _ (exec (Stmt.While _ _ _ _) _) _ _ _)))))); (first | (k_unfold; (try dsimp only)) | (k_end; wrow_close) | walk1 | (dsimp only; walk1) | (leave1; walk_say "STEP leave1"; try dsimp only) | fail "no step")))
        with_unfolding_all exact fin (some (lev1 ws)) _ _ _ _ tl1 _ F1 N1 (fun p hp => List.mem_append.mpr (.inr hp)) (by simp [levelsS]) P1.rf
      · skip
        (repeat' ((((fail_if_success (with_reducible show wpAny _ _ (isTrue (Expr.BoolOp _ _ _) _ _) _ _ _)); (((fail_if_success (with_reducible show wpAny _ _ (call (Value.ref _) _) _ _ _)); (fail_if_success (with_reducible show wpAny _ _ (exec (Stmt.While _ _ _ _) _) _ _ _)))))); (first | (k_unfold; (try dsimp only)) | (k_end; wrow_close) | walk1 | (dsimp only; walk1) | (leave1; walk_say "STEP leave1"; try dsimp only) | fail "no step")))
        with_unfolding_all refine' Con.use (con_second how 4 bw ws hws) ?k1 ?k2 ?k3 ?k4 ?k5 ?kK ?kP ?kd ?ku ?_
        (((((case k1 => k_asm); (case k2 => k_asm); (case k3 => k_asm); (case k4 => k_asm); (case k5 => k_asm); (case kK => first | exact rfl | assumption))); (case kd => first | exact room_d hd (by decide) | (dsimp only [ktrTop]; simp only [recursionLimit] at *; omega)); (case ku => first | exact room_u hu (by decide) | (dsimp only [ktrTop]; simp only [cLine] at *; omega))))
        case kP => exact ⟨_, _, rfl, hP.keeps (Fr.keep (by k_asm)), hO.keeps (Fr.keep (by k_asm))⟩
        intro r1 tl1 h9 tk9 F1 N1 of1 P1
        (repeat' ((((fail_if_success (with_reducible show wpAny _ _ (isTrue (Expr.BoolOp _ _ _) _ _) _ _ _)); (((fail_if_success (with_reducible show wpAny _ _ (call (Value.ref _) _) _ _ _)); (fail_if_success (with_reducible show wpAny _ _ (exec (Stmt.While _ _ _ _) _) _ _ _)))))); (first | (k_unfold; (try dsimp only)) | (k_end; wrow_close) | walk1 | (dsimp only; walk1) | (leave1; walk_say "STEP leave1"; try dsimp only) | fail "no step")))
        with_unfolding_all exact fin (some (lev2 bw ws)) _ _ _ _ tl1 _ F1 N1 (fun p hp => List.mem_append.mpr (.inr hp)) (by simp [levelsS]) P1.rf
      · skip
        (repeat' ((((fail_if_success (with_reducible show wpAny _ _ (isTrue (Expr.BoolOp _ _ _) _ _) _ _ _)); (((fail_if_success (with_reducible show wpAny _ _ (call (Value.ref _) _) _ _ _)); (fail_if_success (with_reducible show wpAny _ _ (exec (Stmt.While _ _ _ _) _) _ _ _)))))); (first | (k_unfold; (try dsimp only)) | (k_end; wrow_close) | walk1 | (dsimp only; walk1) | (leave1; walk_say "STEP leave1"; try dsimp only) | fail "no step")))
        with_unfolding_all refine' Con.use (con_third how 4 bw ws hws) ?k1 ?k2 ?k3 ?k4 ?k5 ?kK ?kP ?kd ?ku ?_
        (((((case k1 => k_asm); (case k2 => k_asm); (case k3 => k_asm); (case k4 => k_asm); (case k5 => k_asm); (case kK => first | exact rfl | assumption))); (case kd => first | exact room_d hd (by decide) | (dsimp only [ktrTop]; simp only [recursionLimit] at *; omega)); (case ku => first | exact room_u hu (by decide) | (dsimp only [ktrTop]; simp only [cLine] at *; omega))))
        case kP => exact ⟨_, _, rfl, hP.keeps (Fr.keep (by k_asm)), hO.keeps (Fr.keep (by k_asm))⟩
        intro r1 tl1 h9 tk9 F1 N1 of1 P1
        (repeat' ((((fail_if_success (with_reducible show wpAny _ _ (isTrue (Expr.BoolOp _ _ _) _ _) _ _ _)); (((fail_if_success (with_reducible show wpAny _ _ (call (Value.ref _) _) _ _ _)); (fail_if_success (with_reducible show wpAny _ _ (exec (Stmt.While _ _ _ _) _) _ _ _)))))); (first | (k_unfold; (try dsimp only)) | (k_end; wrow_close) | walk1 | (dsimp only; walk1) | (leave1; walk_say "STEP leave1"; try dsimp only) | fail "no step")))
        with_unfolding_all exact fin (some (lev3 ws)) _ _ _ _ tl1 _ F1 N1 (fun p hp => List.mem_append.mpr (.inr hp)) (by simp [levelsS]) P1.rf
      · skip
        (repeat' ((((fail_if_success (with_reducible show wpAny _ _ (isTrue (Expr.BoolOp _ _ _) _ _) _ _ _)); (((fail_if_success (with_reducible show wpAny _ _ (call (Value.ref _) _) _ _ _)); (fail_if_success (with_reducible show wpAny _ _ (exec (Stmt.While _ _ _ _) _) _ _ _)))))); (first | (k_unfold; (try dsimp only)) | (k_end; wrow_close) | walk1 | (dsimp only; walk1) | (leave1; walk_say "STEP leave1"; try dsimp only) | fail "no step")))
        with_unfolding_all refine' Con.use (con_fourth how 4 bw ws hws) ?k1 ?k2 ?k3 ?k4 ?k5 ?kK ?kP ?kd ?ku ?_
        (((((case k1 => k_asm); (case k2 => k_asm); (case k3 => k_asm); (case k4 => k_asm); (case k5 => k_asm); (case kK => first | exact rfl | assumption))); (case kd => first | exact room_d hd (by decide) | (dsimp only [ktrTop]; simp only [recursionLimit] at *; omega)); (case ku => first | exact room_u hu (by decide) | (dsimp only [ktrTop]; simp only [cLine] at *; omega))))
        case kP => exact ⟨_, _, rfl, hP.keeps (Fr.keep (by k_asm)), hO.keeps (Fr.keep (by k_asm))⟩
        intro r1 tl1 h9 tk9 F1 N1 of1 P1
        (repeat' ((((fail_if_success (with_reducible show wpAny _ _ (isTrue (Expr.BoolOp _ _ _) _ _) _ _ _)); (((fail_if_success (with_reducible show wpAny _ _ (call (Value.ref _) _) _ _ _)); (fail_if_success (with_reducible show wpAny _ _ (exec (Stmt.While _ _ _ _) _) _ _ _)))))); (first | (k_unfold; (try dsimp only)) | (k_end; wrow_close) | walk1 | (dsimp only; walk1) | (leave1; walk_say "STEP leave1"; try dsimp only) | fail "no step")))
        with_unfolding_all exact fin (some (fourthS how ws)) _ _ _ _ tl1 _ F1 N1 (fun p hp => List.mem_append.mpr (.inr hp)) (by simp [levelsS]) P1.rf
end

section
theorem top_off_C12 : True := by
  w_top off
  exact trivial
def cmpS : List Int → List Int → Int
  | [], [] => 0
  | [], _ :: _ => -1
  | _ :: _, [] => 1
  | x :: xs, y :: ys => if x = y then cmpS xs ys else if x < y then -1 else 1
theorem cmpS_at : ∀ (a b : List Int) (i : Nat) (x y : Int), a.take i = b.take i → a[i]? = some x → b[i]? = some y → x ≠ y → cmpS a b = if x < y then -1 else 1
  | [], _, _, _, _, _, h, _, _ => by simp at h
  | _ :: _, [], _, _, _, _, _, h, _ => by simp at h
  | x :: xs, y :: ys, 0, u, v, _, h1, h2, hne => by
    simp at h1 h2; subst h1; subst h2
    rw [cmpS, if_neg hne]
  | x :: xs, y :: ys, i + 1, u, v, ht, h1, h2, hne => by
    simp at ht h1 h2
    rw [cmpS, if_pos ht.1]
    exact cmpS_at xs ys i u v ht.2 h1 h2 hne
theorem cmpS_end : ∀ (a b : List Int), a.take (min a.length b.length) = b.take (min a.length b.length) → cmpS a b = if a.length = b.length then 0 else if a.length < b.length then -1 else 1
  | [], [], _ => rfl
  | [], _ :: _, _ => by simp [cmpS]
  | _ :: _, [], _ => by simp [cmpS]
  | x :: xs, y :: ys, h => by
    have e : min (x :: xs).length (y :: ys).length = min xs.length ys.length + 1 := by simp only [List.length_cons]; omega
    rw [e] at h
    simp at h
    rw [cmpS, if_pos h.1, cmpS_end xs ys h.2]
    simp
theorem take_snoc_eq {a b : List Int} {i : Nat} {x : Int} (h : a.take i = b.take i) (h1 : a[i]? = some x) (h2 : b[i]? = some x) : a.take (i + 1) = b.take (i + 1) := by
  rw [List.take_add_one, List.take_add_one, h, h1, h2]
set_option maxHeartbeats 16000000 in
theorem con_cmpl (as bs : List Int) (ha : as.length ≤ 1000) (hb : bs.length ≤ 1000) : Con 124 1 (fun h vs => ∃ v u, vs = [v, u] ∧ Rd h v (.list (as.map .int)) ∧ Rd h u (.list (bs.map .int))) (fun tl r => ∃ t, r = .int (cmpS as bs) t) := by
  unfold Con; k_fill
  intro w mean mg mb dp un gd cn cs a ccd cl outer A₀ base h₀ L m news s vs Q E B F X N T hk hP hd hu hret
  obtain ⟨v0, u0, rfl, hP⟩ := hP
  refine wpAny_call ?_
  k_dflt (refine' code_defB (binds := [((Str.ofString "one"), v0), ((Str.ofString "other"), u0)]) ?k1 ?k2 ?k3 ?k5 ?kA ?kF ?kK ?k6 ?k7 ?k8 ?k9 ?kB ?_ ?c2 ?c3 ?c4 ?c5; (case kA => exact rfl); (case kF => exact rfl); (case kK => assumption); (case k1 => k_asm); (case k2 => k_asm); (case k3 => k_asm); (case k5 => k_asm); (case k6 => k_is); (case k7 => k_is); (case k8 => first | exact room_0 hd | (dsimp only [ktrTop]; omega)); (case k9 => first | exact BindsTo.of_eq rfl | exact binds_K (by k_in) rfl (by k_is) rfl rfl rfl); (case c5 => decide); (case kB => exact locs rfl); (case c2 => exact rfl); (case c3 => exact rfl); (case c4 => exact rfl); k_whole)
  intro g L' h₁ eg F' N' B' X' T'
  refine wpAny_mono (E := fun _ _ => False) (Q := fun fl s' => RetB g L' s (fun tl r => ∃ t, r = .int (cmpS as bs) t) (match fl with | .ret v => v | _ => .none) s') ?_ (fun fl s' h => RetB.back eg F N hret h) (fun _ _ h => False.elim h)
  clear hret F N X T B
  dsimp only [List.reverse_cons, List.reverse_nil, List.nil_append, List.cons_append, List.reverse, List.reverseAux] at F'
  (try rw [← eg] at hP); clear eg
  obtain ⟨hP1, hP2⟩ := hP
  obtain ⟨l1, vs1, rfl, hl1, hI1⟩ := rd_ints hP1
  obtain ⟨l2, vs2, rfl, hl2, hI2⟩ := rd_ints hP2
  have hn1 := hI1.length
  have hn2 := hI2.length
  clear hP1 hP2
  (with_reducible show wpAny _ _ _ _ _ _); (try k_fold)
  (repeat' ((((fail_if_success (with_reducible show wpAny _ _ (isTrue (Expr.BoolOp _ _ _) _ _) _ _ _)); (((fail_if_success (with_reducible show wpAny _ _ (call (Value.ref _) _) _ _ _)); (fail_if_success (with_reducible show wpAny _ _ (exec (Stmt.While _ _ _ _) _) _ _ _)))))); (first | (k_unfold; (try dsimp only)) | (k_end; wrow_close) | walk1 | (dsimp only; walk1) | (leave1; walk_say "STEP leave1"; try dsimp only) | fail "no step")))
  (rename Fr _ _ _ _ => lF); (rename News _ _ _ _ => lN)
  (rename IsRange _ _ _ _ _ _ _ _ => lR)
  with_unfolding_all refine for_stR (n := min as.length bs.length) [] (fun i ps nx => ps = [] ∧ nx = [] ∧ as.take i = bs.take i) [] [(Str.ofString "at")] rfl lF lN (List.forall_mem_nil _) lR ?_ ?_ ⟨rfl, rfl, rfl⟩ (List.forall_mem_nil _) ?_ ?_
  · exact small_one (by omega) (by omega) (by omega) (by omega)
  · rw [rangeSize_nat]; omega
  · intro i t ps u nx h tk own hi ho hp9a F₁ N₁
    ((try with_reducible show wpAny _ _ _ _ _ _); (try k_fold))
    obtain ⟨rfl, rfl, hpre⟩ := hp9a
    change Fr g L' h _ at F₁; change News g L' h _ at N₁
    clear lF lN lR
    obtain ⟨x, hx⟩ : ∃ x, as[i]? = some x := ⟨as[i]'(by omega), by simp⟩
    obtain ⟨y, hy⟩ : ∃ y, bs[i]? = some y := ⟨bs[i]'(by omega), by simp⟩
    (with_reducible show wpAny _ _ _ _ _ _); (try k_fold)
    have ex : as.getD (0 + (i : Int)).toNat 0 = x := by rw [show (0 + (i : Int)).toNat = i by omega]; simp [List.getD, hx]
    have ey : bs.getD (0 + (i : Int)).toNat 0 = y := by rw [show (0 + (i : Int)).toNat = i by omega]; simp [List.getD, hy]
    (repeat' ((((fail_if_success (with_reducible show wpAny _ _ (isTrue (Expr.BoolOp _ _ _) _ _) _ _ _)); (((fail_if_success (with_reducible show wpAny _ _ (call (Value.ref _) _) _ _ _)); (fail_if_success (with_reducible show wpAny _ _ (exec (Stmt.While _ _ _ _) _) _ _ _)))))); (first | (k_unfold; (try dsimp only)) | (k_end; wrow_close) | walk1 | (dsimp only; walk1) | (leave1; walk_say "STEP leave1"; try dsimp only) | fail "no step")))
    all_goals ((rename Fr _ _ _ _ => F9); (rename News _ _ _ _ => N9))
    · with_unfolding_all refine RetB.fin F9 N9 [] (List.forall_mem_nil _) (ktn_int (Eq.symm ?_))
      rw [cmpS_at as bs i x y hpre hx hy (by rw [← ex, ← ey]; assumption), if_pos (by rw [← ex, ← ey]; assumption)]
    · with_unfolding_all refine RetB.fin F9 N9 [] (List.forall_mem_nil _) (ktn_int (Eq.symm ?_))
      rw [cmpS_at as bs i x y hpre hx hy (by rw [← ex, ← ey]; assumption), if_neg (by rw [← ex, ← ey]; assumption)]
    · have exy : x = y := by rw [← ex, ← ey]; assumption
      with_unfolding_all exact StJ.end [] [] F9 N9 (List.forall_mem_nil _) (fun p hp => hp) (fun p hp b hb => nomatch hb) ⟨rfl, rfl, take_snoc_eq hpre hx (exy ▸ hy)⟩ (List.forall_mem_nil _) (by (first | (intro z h2 h3; (try dsimp only at h2); (repeat (first | exact skc h3 | (with_reducible exact rfl) | (refine sk (ne_in h3 (by with_reducible first | exact nm_head | exact nm_tail nm_head | exact nm_tail (nm_tail nm_head) | exact nm_tail (nm_tail (nm_tail nm_head)) | exact nm_tail (nm_tail (nm_tail (nm_tail nm_head))) | exact nm_tail (nm_tail (nm_tail (nm_tail (nm_tail nm_head)))) | exact nm_tail (nm_tail (nm_tail (nm_tail (nm_tail (nm_tail nm_head))))) | exact nm_tail (nm_tail (nm_tail (nm_tail (nm_tail (nm_tail (nm_tail nm_head)))))) | exact nm_tail (nm_tail (nm_tail (nm_tail (nm_tail (nm_tail (nm_tail (nm_tail nm_head))))))))) ?_) | (refine sk (ne_h h2) ?_) | (refine sk (ne_h (ne_t h2)) ?_) | (refine sk (ne_h (ne_t (ne_t h2))) ?_) | fail "no name")); done) | (walk_say "OLDSAME"; (((try dsimp +zetaDelta only); intro z h2 h3; (try simp only [List.forall_mem_cons, List.not_mem_nil, false_implies, implies_true, and_true, ne_eq] at h2); (have h4 := h3); (simp only [List.contains_cons, List.contains_nil, Bool.or_false, Bool.or_eq_false_iff, beq_eq_false_iff_ne, ne_eq] at h3); ((simp only [kstB, h2, h3, h4, if_false, Bool.false_eq_true]) <;> rfl))))))
  · intro ps u nx h tk hp9a F₁ N₁
    ((try with_reducible show wpAny _ _ _ _ _ _); (try k_fold))
    obtain ⟨rfl, rfl, hpre⟩ := hp9a
    change Fr g L' h _ at F₁; change News g L' h _ at N₁
    clear lF lN lR
    (with_reducible show wpAny _ _ _ _ _ _); (try k_fold)
    (repeat' ((((fail_if_success (with_reducible show wpAny _ _ (isTrue (Expr.BoolOp _ _ _) _ _) _ _ _)); (((fail_if_success (with_reducible show wpAny _ _ (call (Value.ref _) _) _ _ _)); (fail_if_success (with_reducible show wpAny _ _ (exec (Stmt.While _ _ _ _) _) _ _ _)))))); (first | (k_unfold; (try dsimp only)) | (k_end; wrow_close) | walk1 | (dsimp only; walk1) | (leave1; walk_say "STEP leave1"; try dsimp only) | fail "no step")))
    all_goals ((rename Fr _ _ _ _ => F9); (rename News _ _ _ _ => N9))
    all_goals (
      with_unfolding_all refine RetB.fin F9 N9 [] (List.forall_mem_nil _) (ktn_int (Eq.symm ?_))
      rw [cmpS_end as bs hpre]
      first | rw [if_pos (by omega)] | (rw [if_neg (by omega)]; first | rw [if_pos (by omega)] | rw [if_neg (by omega)]))
end

section
theorem top_off_C13 : True := by
  w_top off
  exact trivial
set_option maxHeartbeats 16000000 in
theorem con_sign (as bs : List Int) (ha : as.length ≤ 10000) (hb : bs.length ≤ 10000) : Con 176 1 (fun h vs => ∃ v u, vs = [v, u] ∧ Rd h v (.list (as.map .int)) ∧ Rd h u (.list (bs.map .int))) (fun tl r => ∃ t, r = .int (cmpS as bs) t) := by
  unfold Con; k_fill
  intro w mean mg mb dp un gd cn cs a ccd cl outer A₀ base h₀ L m news s vs Q E B F X N T hk hP hd hu hret
  obtain ⟨v0, u0, rfl, hP⟩ := hP
  refine wpAny_call ?_
  k_dflt (refine' code_defB (binds := [((Str.ofString "one"), v0), ((Str.ofString "other"), u0)]) ?k1 ?k2 ?k3 ?k5 ?kA ?kF ?kK ?k6 ?k7 ?k8 ?k9 ?kB ?_ ?c2 ?c3 ?c4 ?c5; (case kA => exact rfl); (case kF => exact rfl); (case kK => assumption); (case k1 => k_asm); (case k2 => k_asm); (case k3 => k_asm); (case k5 => k_asm); (case k6 => k_is); (case k7 => k_is); (case k8 => first | exact room_0 hd | (dsimp only [ktrTop]; omega)); (case k9 => first | exact BindsTo.of_eq rfl | exact binds_K (by k_in) rfl (by k_is) rfl rfl rfl); (case c5 => decide); (case kB => exact locs rfl); (case c2 => exact rfl); (case c3 => exact rfl); (case c4 => exact rfl); k_whole)
  intro g L' h₁ eg F' N' B' X' T'
  refine wpAny_mono (E := fun _ _ => False) (Q := fun fl s' => RetB g L' s (fun tl r => ∃ t, r = .int (cmpS as bs) t) (match fl with | .ret v => v | _ => .none) s') ?_ (fun fl s' h => RetB.back eg F N hret h) (fun _ _ h => False.elim h)
  clear hret F N X T B
  dsimp only [List.reverse_cons, List.reverse_nil, List.nil_append, List.cons_append, List.reverse, List.reverseAux] at F'
  (try rw [← eg] at hP); clear eg
  obtain ⟨hP1, hP2⟩ := hP
  obtain ⟨l1, vs1, rfl, hl1, hI1⟩ := rd_ints hP1
  obtain ⟨l2, vs2, rfl, hl2, hI2⟩ := rd_ints hP2
  have hn1 := hI1.length
  have hn2 := hI2.length
  clear hP1 hP2
  (with_reducible show wpAny _ _ _ _ _ _); (try k_fold)
  (repeat' ((((fail_if_success (with_reducible show wpAny _ _ (isTrue (Expr.BoolOp _ _ _) _ _) _ _ _)); (((fail_if_success (with_reducible show wpAny _ _ (call (Value.ref _) _) _ _ _)); (fail_if_success (with_reducible show wpAny _ _ (exec (Stmt.While _ _ _ _) _) _ _ _)))))); (first | (k_unfold; (try dsimp only)) | (k_end; wrow_close) | walk1 | (dsimp only; walk1) | (leave1; walk_say "STEP leave1"; try dsimp only) | fail "no step")))
  (rename Fr _ _ _ _ => lF); (rename News _ _ _ _ => lN)
  (rename ZipApart _ _ _ _ _ _ _ => lD); (rename IsZip _ _ _ _ _ ∧ _ => lS); (rename @LT.lt Nat _ _ _ ∧ @LT.lt Nat _ _ _ ∧ _ ∧ _ => lB)
  have hl1' := hl1
  have hl2' := hl2
  obtain ⟨o1, ho1, _⟩ := hl1'
  obtain ⟨o2, ho2, _⟩ := hl2'
  have e1 : @LT.lt Nat _ l1 L' := Nat.lt_of_lt_of_le (Heap.lt_size ho1) lF.above
  have e2 : @LT.lt Nat _ l2 L' := Nat.lt_of_lt_of_le (Heap.lt_size ho2) lF.above
  with_unfolding_all refine for_stT [] [] (fun i ps nx => ps = [] ∧ nx = [] ∧ as.take i = bs.take i) [] [(Str.ofString "near"), (Str.ofString "far")] (WalksT.zip2 rfl _ _ _ _ _ _ _ lD vs1.toArray vs2.toArray) lS lF lN (List.forall_mem_nil _) ?_ zip_alive ?_ (List.forall_mem_nil _) (List.forall_mem_nil _) ⟨rfl, rfl, rfl⟩ (List.forall_mem_nil _) ?_ ?_
  · have e3 := ns_not_pair lF lS.2.1
    intro hm
    change L' ∈ _ at hm
    simp only [List.mem_cons, List.not_mem_nil, or_false] at hm
    obtain ⟨q1, q2, q3, q4⟩ := lB
    rcases hm with e | e | e | e | e | e | e
    · exact absurd e (Nat.ne_of_lt q1)
    · exact e3 e
    · exact absurd e (Nat.ne_of_lt q2)
    · exact absurd e (Nat.ne_of_lt q3)
    · exact absurd e (Nat.ne_of_lt q4)
    · exact absurd e (Nat.ne_of_gt e1)
    · exact absurd e (Nat.ne_of_gt e2)
  · intro b hb
    simp only [List.mem_cons, List.not_mem_nil, or_false] at hb
    obtain ⟨q1, q2, q3, q4⟩ := lB
    rcases hb with rfl | rfl | rfl | rfl
    · exact fr_new lF q1
    · exact fr_new lF q2
    · exact fr_new lF q3
    · exact fr_new lF q4
  · intro i T vals ps u nx h tk own hi hp9a hlo ho hp9b F₁ N₁ hT
    ((try with_reducible show wpAny _ _ _ _ _ _); (try k_fold))
    obtain ⟨x0, y0, hx0, hy0, rfl⟩ := hp9a
    obtain ⟨rfl, rfl, hpre⟩ := hp9b
    change Fr g L' h _ at F₁; change News g L' h _ at N₁
    clear lF lN lD lS lB
    have hi' : i < as.length ∧ i < bs.length := by simp only [List.size_toArray] at hi; omega
    obtain ⟨x, hx⟩ : ∃ x, as[i]? = some x := ⟨as[i]'(by omega), by simp⟩
    obtain ⟨y, hy⟩ : ∃ y, bs[i]? = some y := ⟨bs[i]'(by omega), by simp⟩
    obtain ⟨t1, ex⟩ := hI1.get i x hx
    obtain ⟨t2, ey⟩ := hI2.get i y hy
    have ex0 : x0 = .int x t1 := by rw [List.getElem?_toArray, ex] at hx0; exact (Option.some.inj hx0).symm
    have ey0 : y0 = .int y t2 := by rw [List.getElem?_toArray, ey] at hy0; exact (Option.some.inj hy0).symm
    subst ex0; subst ey0
    clear ex ey hx0 hy0 hI1 hI2 hl1 hl2 hi
    (with_reducible show wpAny _ _ _ _ _ _); (try k_fold)
    (repeat' ((((fail_if_success (with_reducible show wpAny _ _ (isTrue (Expr.BoolOp _ _ _) _ _) _ _ _)); (((fail_if_success (with_reducible show wpAny _ _ (call (Value.ref _) _) _ _ _)); (fail_if_success (with_reducible show wpAny _ _ (exec (Stmt.While _ _ _ _) _) _ _ _)))))); (first | (k_unfold; (try dsimp only)) | (k_end; wrow_close) | walk1 | (dsimp only; walk1) | (leave1; walk_say "STEP leave1"; try dsimp only) | fail "no step")))
    all_goals ((rename Fr _ _ _ _ => F9); (rename News _ _ _ _ => N9))
    · with_unfolding_all refine RetB.fin F9 N9 [] (List.forall_mem_nil _) (ktn_int (Eq.symm ?_))
      rw [cmpS_at as bs i x y hpre hx hy (by assumption), if_pos (by assumption)]
    · with_unfolding_all refine RetB.fin F9 N9 [] (List.forall_mem_nil _) (ktn_int (Eq.symm ?_))
      rw [cmpS_at as bs i x y hpre hx hy (by assumption), if_neg (by assumption)]
    · have exy : x = y := by omega
      with_unfolding_all exact StJ.end [] [] F9 N9 (List.forall_mem_nil _) (fun p hp => hp) (fun p hp b hb => nomatch hb) ⟨rfl, rfl, take_snoc_eq hpre hx (exy ▸ hy)⟩ (List.forall_mem_nil _) (by (first | (intro z h2 h3; (try dsimp only at h2); (repeat (first | exact skc h3 | (with_reducible exact rfl) | (refine sk (ne_in h3 (by with_reducible first | exact nm_head | exact nm_tail nm_head | exact nm_tail (nm_tail nm_head) | exact nm_tail (nm_tail (nm_tail nm_head)) | exact nm_tail (nm_tail (nm_tail (nm_tail nm_head))) | exact nm_tail (nm_tail (nm_tail (nm_tail (nm_tail nm_head)))) | exact nm_tail (nm_tail (nm_tail (nm_tail (nm_tail (nm_tail nm_head))))) | exact nm_tail (nm_tail (nm_tail (nm_tail (nm_tail (nm_tail (nm_tail nm_head)))))) | exact nm_tail (nm_tail (nm_tail (nm_tail (nm_tail (nm_tail (nm_tail (nm_tail nm_head))))))))) ?_) | (refine sk (ne_h h2) ?_) | (refine sk (ne_h (ne_t h2)) ?_) | (refine sk (ne_h (ne_t (ne_t h2))) ?_) | fail "no name")); done) | (walk_say "OLDSAME"; (((try dsimp +zetaDelta only); intro z h2 h3; (try simp only [List.forall_mem_cons, List.not_mem_nil, false_implies, implies_true, and_true, ne_eq] at h2); (have h4 := h3); (simp only [List.contains_cons, List.contains_nil, Bool.or_false, Bool.or_eq_false_iff, beq_eq_false_iff_ne, ne_eq] at h3); ((simp only [kstB, h2, h3, h4, if_false, Bool.false_eq_true]) <;> rfl))))))
  · intro ps u nx h tk hp9a hnf F₁ N₁
    ((try with_reducible show wpAny _ _ _ _ _ _); (try k_fold))
    obtain ⟨rfl, rfl, hpre⟩ := hp9a
    change Fr g L' h _ at F₁; change News g L' h _ at N₁
    clear lF lN lD lS lB
    simp only [List.size_toArray, hn1, hn2] at hpre
    (with_reducible show wpAny _ _ _ _ _ _); (try k_fold)
    (repeat' ((((fail_if_success (with_reducible show wpAny _ _ (isTrue (Expr.BoolOp _ _ _) _ _) _ _ _)); (((fail_if_success (with_reducible show wpAny _ _ (call (Value.ref _) _) _ _ _)); (fail_if_success (with_reducible show wpAny _ _ (exec (Stmt.While _ _ _ _) _) _ _ _)))))); (first | (k_unfold; (try dsimp only)) | (k_end; wrow_close) | walk1 | (dsimp only; walk1) | (leave1; walk_say "STEP leave1"; try dsimp only) | fail "no step")))
    all_goals ((rename Fr _ _ _ _ => F9); (rename News _ _ _ _ => N9))
    all_goals (
      with_unfolding_all refine RetB.fin F9 N9 [] (List.forall_mem_nil _) (ktn_int (Eq.symm ?_))
      rw [cmpS_end as bs hpre]
      first | rw [if_pos (by omega)] | (rw [if_neg (by omega)]; first | rw [if_pos (by omega)] | rw [if_neg (by omega)]))
end

section
theorem top_off_C14 : True := by
  w_top off
  exact trivial
def splStep (st : List (List Int) × List Int) (w : Int) : List (List Int) × List Int := if w = 0 then (st.1 ++ [st.2], []) else (st.1, st.2 ++ [w])
def splitS (key : List Int) : List (List Int) := let st := key.foldl splStep ([], []); st.1 ++ [st.2]
theorem spl_len : ∀ (key : List Int) (st : List (List Int) × List Int), (key.foldl splStep st).2.length ≤ st.2.length + key.length ∧ (key.foldl splStep st).1.length ≤ st.1.length + key.length
  | [], st => by simp
  | w :: key, st => by
    rw [List.foldl_cons]
    have h := spl_len key (splStep st w)
    by_cases hw : w = 0
    · simp only [splStep, hw, if_true, List.length_append, List.length_cons, List.length_nil] at h ⊢; omega
    · simp only [splStep, hw, if_false, List.length_append, List.length_cons, List.length_nil] at h ⊢; omega
theorem last_item {prog : Program} {w : World} {A : Around} {E : Value → Shared → Prop} {s : Shared} {value slice : PySem.Expr} {D : Addr} {us : List Value} {v : Value} {u : Tok} {Q : Value → Shared → Prop} (hl : s.heap.IsList D (us ++ [v]).toArray) (h : Q v s)
    (hs : subscripted slice false (.ref D) (.int (-1) u) = operate [.ref D, .int (-1) u] (getItem (.ref D) (.int (-1) u))) :
    wpAny (model prog w) A (subscriptTail value slice (.ref D) (.int (-1) u)) Q E s :=
  tail_any hl.typeIs slot_list_getitem.lookup (wpAny_getItem_list_neg hl (by decide) (by simp; omega) (by decide) (by rw [List.getElem?_toArray, List.size_toArray, List.length_append, List.length_singleton, show (-1 + ((us.length + 1 : Nat) : Int)).toNat = us.length by omega]; simp) h) hs
local macro_rules | `(tactic| walk_at "subscriptTail Name UnaryOp ref int") => `(tactic| (k_here; (with_unfolding_all refine' last_item ?l ?_ ?hs; (case l => exact isListN (by k_asm) (by k_mem)); (case hs => with_unfolding_all rfl))))
@[reducible] def SpJ (key : List Int) : Nat → List (Str × Value) → List (Addr × Obj) → Prop :=
  fun i ps nx => ∃ D Lz us cur n k tl st, ps = [((Str.ofString "found"), .ref D)] ∧ nx = (D, listOf (us ++ [.ref Lz]).toArray n) :: (Lz, listOf (List.toArray cur) k) :: tl ∧ (key.take i).foldl splStep ([], []) = st ∧ RLs tl us st.1 ∧ IntsAre cur st.2 ∧ Lz ≠ D ∧ (∀ p ∈ tl, p.1 ≠ D) ∧ (∀ p ∈ tl, p.1 ≠ Lz)
set_option maxHeartbeats 16000000 in
theorem con_split (key : List Int) (hk : key.length ≤ 1000) : Con 138 1 (fun h vs => ∃ v, vs = [v] ∧ Rd h v (.list (key.map .int))) (fun tl r => RLL tl r (splitS key)) := by
  unfold Con; k_fill
  intro w mean mg mb dp un gd cn cs a ccd cl outer A₀ base h₀ L m news s vs Q E B F X N T hk hP hd hu hret
  obtain ⟨v0, rfl, hP⟩ := hP
  refine wpAny_call ?_
  k_dflt (refine' code_defB (binds := [((Str.ofString "key"), v0)]) ?k1 ?k2 ?k3 ?k5 ?kA ?kF ?kK ?k6 ?k7 ?k8 ?k9 ?kB ?_ ?c2 ?c3 ?c4 ?c5; (case kA => exact rfl); (case kF => exact rfl); (case kK => assumption); (case k1 => k_asm); (case k2 => k_asm); (case k3 => k_asm); (case k5 => k_asm); (case k6 => k_is); (case k7 => k_is); (case k8 => first | exact room_0 hd | (dsimp only [ktrTop]; omega)); (case k9 => first | exact BindsTo.of_eq rfl | exact binds_K (by k_in) rfl (by k_is) rfl rfl rfl); (case c5 => decide); (case kB => exact locs rfl); (case c2 => exact rfl); (case c3 => exact rfl); (case c4 => exact rfl); k_whole)
  intro g L' h₁ eg F' N' B' X' T'
  refine wpAny_mono (E := fun _ _ => False) (Q := fun fl s' => RetB g L' s (fun tl r => RLL tl r (splitS key)) (match fl with | .ret v => v | _ => .none) s') ?_ (fun fl s' h => RetB.back eg F N hret h) (fun _ _ h => False.elim h)
  clear hret F N X T B
  dsimp only [List.reverse_cons, List.reverse_nil, List.nil_append, List.cons_append, List.reverse, List.reverseAux] at F'
  (try rw [← eg] at hP); clear eg
  obtain ⟨l, vs, rfl, hl, hI⟩ := rd_ints hP
  have hlen := hI.length
  clear hP
  (with_reducible show wpAny _ _ _ _ _ _); (try k_fold)
  (repeat' ((((fail_if_success (with_reducible show wpAny _ _ (isTrue (Expr.BoolOp _ _ _) _ _) _ _ _)); (((fail_if_success (with_reducible show wpAny _ _ (call (Value.ref _) _) _ _ _)); (fail_if_success (with_reducible show wpAny _ _ (exec (Stmt.While _ _ _ _) _) _ _ _)))))); (first | (k_unfold; (try dsimp only)) | (k_end; wrow_close) | walk1 | (dsimp only; walk1) | (leave1; walk_say "STEP leave1"; try dsimp only) | fail "no step")))
  (rename Fr _ _ _ _ => lF); (rename @LT.lt Nat _ _ _ => lL)
  have lN := (by assumption : News g L' _ [_, _])
  with_unfolding_all refine for_st [(_, listOf #[_] 0), (_, listOf #[] 0)] [] (SpJ key) [((Str.ofString "found"), .ref _)] [(Str.ofString "weight")] rfl lF lN (fun p hp => hp) (List.forall_mem_nil _) (isList_in hl) ⟨_, _, [], [], 0, 0, [], _, rfl, rfl, rfl, .nil, .nil, Nat.ne_of_lt lL, List.forall_mem_nil _, List.forall_mem_nil _⟩ (by kst_all) ?_ ?_
  · clear lF lN lL
    intro i v ps u nx h tk own hv ho hlo hp9a F₁ N₁
    ((try with_reducible show wpAny _ _ _ _ _ _); (try k_fold))
    obtain ⟨D, Lz, us, cur, n, k, tl, st, rfl, rfl, hst, hR, hIc, hLD, hD, hL⟩ := hp9a
    change Fr g L' h _ at F₁; change News g L' h _ at N₁
    obtain ⟨x, t, rfl, hx⟩ := hI.at i v hv
    have hil : i < key.length := (List.getElem?_eq_some_iff.mp hx).1
    have hb := spl_len (key.take i) ([], [])
    rw [hst, List.length_take] at hb
    simp only [List.length_nil] at hb
    have hcl : cur.length ≤ 1000 := by rw [hIc.length]; omega
    have hul : (us ++ [Value.ref Lz]).length ≤ 1001 := by rw [List.length_append, hR.length, List.length_singleton]; omega
    have hnD : ∀ p ∈ tl ++ own, p.1 ≠ D := fun p hp => (List.mem_append.mp hp).elim (hD p) fun q => ho p q D (by simp)
    have hnL : ∀ p ∈ tl ++ own, p.1 ≠ Lz := fun p hp => (List.mem_append.mp hp).elim (hL p) fun q => ho p q Lz (by simp)
    have hof : OwnOff own (tl.map (·.1)) := fun p hp b hb => ho p hp b (by simp only [List.map_cons, List.mem_cons]; exact .inr (.inr hb))
    have hoD : ∀ p ∈ own, p.1 ≠ D := fun p hp => hnD p (List.mem_append.mpr (.inr hp))
    have hoL : ∀ p ∈ own, p.1 ≠ Lz := fun p hp => hnL p (List.mem_append.mpr (.inr hp))
    have hs1 := take_succ_fold splStep ([], []) key i x hx
    rw [hst] at hs1
    simp only [List.cons_append] at N₁
    have hLD2 : @Ne Nat Lz D := hLD
    clear hv hlo ho hb hlen
    (with_reducible show wpAny _ _ _ _ _ _); (try k_fold)
    (repeat' ((((fail_if_success (with_reducible show wpAny _ _ (isTrue (Expr.BoolOp _ _ _) _ _) _ _ _)); (((fail_if_success (with_reducible show wpAny _ _ (call (Value.ref _) _) _ _ _)); (fail_if_success (with_reducible show wpAny _ _ (exec (Stmt.While _ _ _ _) _) _ _ _)))))); (first | (k_unfold; (try dsimp only)) | (k_end; wrow_close) | walk1 | (dsimp only; walk1) | (leave1; walk_say "STEP leave1"; try dsimp only) | fail "no step")))
    · (rename Fr _ _ _ _ => F9); (rename News _ _ _ _ => N9); (rename _ ∧ _ ∧ AllLt _ _ => l9)
      have hx0 : x = 0 := by assumption
      simp only [List.push_toArray] at N9
      rw [splStep, if_pos hx0] at hs1
      obtain ⟨lE1, lE2, lE3⟩ := l9
      have lE4 := ktn_ltOf lE3
      with_unfolding_all refine StJ.end [((Str.ofString "found"), .ref D)] ((D, listOf (List.toArray ((us ++ [Value.ref Lz]) ++ [Value.ref _])) (n + 1)) :: (_, listOf #[] 0) :: (Lz, listOf (List.toArray cur) k) :: tl) F9 N9 ?_ ?_ ?_ ⟨D, _, us ++ [Value.ref Lz], [], n + 1, 0, (Lz, listOf (List.toArray cur) k) :: tl, _, rfl, rfl, hs1, ?_, .nil, Nat.ne_of_gt lE1, ?_, ?_⟩ (by kst_all) (by (first | (intro z h2 h3; (try dsimp only at h2); (repeat (first | exact skc h3 | (with_reducible exact rfl) | (refine sk (ne_in h3 (by with_reducible first | exact nm_head | exact nm_tail nm_head | exact nm_tail (nm_tail nm_head) | exact nm_tail (nm_tail (nm_tail nm_head)) | exact nm_tail (nm_tail (nm_tail (nm_tail nm_head))) | exact nm_tail (nm_tail (nm_tail (nm_tail (nm_tail nm_head)))) | exact nm_tail (nm_tail (nm_tail (nm_tail (nm_tail (nm_tail nm_head))))) | exact nm_tail (nm_tail (nm_tail (nm_tail (nm_tail (nm_tail (nm_tail nm_head)))))) | exact nm_tail (nm_tail (nm_tail (nm_tail (nm_tail (nm_tail (nm_tail (nm_tail nm_head))))))))) ?_) | (refine sk (ne_h h2) ?_) | (refine sk (ne_h (ne_t h2)) ?_) | (refine sk (ne_h (ne_t (ne_t h2))) ?_) | fail "no name")); done) | (walk_say "OLDSAME"; (((try dsimp +zetaDelta only); intro z h2 h3; (try simp only [List.forall_mem_cons, List.not_mem_nil, false_implies, implies_true, and_true, ne_eq] at h2); (have h4 := h3); (simp only [List.contains_cons, List.contains_nil, Bool.or_false, Bool.or_eq_false_iff, beq_eq_false_iff_ne, ne_eq] at h3); ((simp only [kstB, h2, h3, h4, if_false, Bool.false_eq_true]) <;> rfl))))))
      · intro p hp
        simp only [List.mem_cons, List.mem_append] at hp ⊢
        rcases hp with hp | hp | hp | hp
        · exact .inr (.inl hp)
        · exact .inl hp
        · exact .inr (.inr (.inl hp))
        · exact .inr (.inr (.inr (.inl hp)))
      · intro p hp
        simp only [List.mem_cons, List.mem_append]
        exact .inr (.inr (.inr (.inr hp)))
      · intro p hp b hb
        simp only [List.map_cons, List.mem_cons] at hb
        rcases hb with rfl | rfl | rfl | hb
        · exact hoD p hp
        · exact Nat.ne_of_lt (lE4 p (List.mem_append.mpr (.inr hp)))
        · exact hoL p hp
        · exact hof p hp b hb
      · exact (hR.mono fun p hp => .tail _ hp).append (.cons (RL.mk (.head _) (RfAll.ints hIc)) .nil)
      · intro p hp
        rcases List.mem_cons.mp hp with rfl | hp
        · exact hLD
        · exact hD p hp
      · intro p hp
        rcases List.mem_cons.mp hp with rfl | hp
        · exact Nat.ne_of_lt lE2
        · exact Nat.ne_of_lt (lE4 p (List.mem_append.mpr (.inl hp)))
    · (rename Fr _ _ _ _ => F9); (rename News _ _ _ _ => N9)
      have hx0 : x ≠ 0 := by assumption
      simp only [List.push_toArray] at N9
      rw [splStep, if_neg hx0] at hs1
      with_unfolding_all refine StJ.end [((Str.ofString "found"), .ref D)] ((D, listOf (List.toArray (us ++ [Value.ref Lz])) n) :: (Lz, listOf (List.toArray (cur ++ [Value.int x t])) (k + 1)) :: tl) F9 N9 ?_ ?_ ?_ ⟨D, Lz, us, cur ++ [Value.int x t], n, k + 1, tl, _, rfl, rfl, hs1, hR, hIc.append (.cons _ _ .nil), hLD, hD, hL⟩ (by kst_all) (by (first | (intro z h2 h3; (try dsimp only at h2); (repeat (first | exact skc h3 | (with_reducible exact rfl) | (refine sk (ne_in h3 (by with_reducible first | exact nm_head | exact nm_tail nm_head | exact nm_tail (nm_tail nm_head) | exact nm_tail (nm_tail (nm_tail nm_head)) | exact nm_tail (nm_tail (nm_tail (nm_tail nm_head))) | exact nm_tail (nm_tail (nm_tail (nm_tail (nm_tail nm_head)))) | exact nm_tail (nm_tail (nm_tail (nm_tail (nm_tail (nm_tail nm_head))))) | exact nm_tail (nm_tail (nm_tail (nm_tail (nm_tail (nm_tail (nm_tail nm_head)))))) | exact nm_tail (nm_tail (nm_tail (nm_tail (nm_tail (nm_tail (nm_tail (nm_tail nm_head))))))))) ?_) | (refine sk (ne_h h2) ?_) | (refine sk (ne_h (ne_t h2)) ?_) | (refine sk (ne_h (ne_t (ne_t h2))) ?_) | fail "no name")); done) | (walk_say "OLDSAME"; (((try dsimp +zetaDelta only); intro z h2 h3; (try simp only [List.forall_mem_cons, List.not_mem_nil, false_implies, implies_true, and_true, ne_eq] at h2); (have h4 := h3); (simp only [List.contains_cons, List.contains_nil, Bool.or_false, Bool.or_eq_false_iff, beq_eq_false_iff_ne, ne_eq] at h3); ((simp only [kstB, h2, h3, h4, if_false, Bool.false_eq_true]) <;> rfl))))))
      · intro p hp
        simp only [List.mem_cons, List.mem_append] at hp ⊢
        rcases hp with hp | hp | hp
        · exact .inl hp
        · exact .inr (.inl hp)
        · exact .inr (.inr (.inl hp))
      · intro p hp
        simp only [List.mem_cons, List.mem_append]
        exact .inr (.inr (.inr hp))
      · intro p hp b hb
        simp only [List.map_cons, List.mem_cons] at hb
        rcases hb with rfl | rfl | hb
        · exact hoD p hp
        · exact hoL p hp
        · exact hof p hp b hb
  · clear lF lN lL
    intro ps u nx h tk hp9a _ F₁ N₁
    ((try with_reducible show wpAny _ _ _ _ _ _); (try k_fold))
    obtain ⟨D, Lz, us, cur, n, k, tl, st, rfl, rfl, hst, hR, hIc, hLD, hD, hL⟩ := hp9a
    change Fr g L' h _ at F₁; change News g L' h _ at N₁
    rw [hlen, List.take_length] at hst
    (with_reducible show wpAny _ _ _ _ _ _); (try k_fold)
    (repeat' ((((fail_if_success (with_reducible show wpAny _ _ (isTrue (Expr.BoolOp _ _ _) _ _) _ _ _)); (((fail_if_success (with_reducible show wpAny _ _ (call (Value.ref _) _) _ _ _)); (fail_if_success (with_reducible show wpAny _ _ (exec (Stmt.While _ _ _ _) _) _ _ _)))))); (first | (k_unfold; (try dsimp only)) | (k_end; wrow_close) | walk1 | (dsimp only; walk1) | (leave1; walk_say "STEP leave1"; try dsimp only) | fail "no step")))
    (rename Fr _ _ _ _ => F9); (rename News _ _ _ _ => N9)
    with_unfolding_all refine RetB.fin F9 N9 _ (fun p hp => hp) (RLL.mk (ls := splitS key) (.head _) ?_)
    rw [splitS, hst]
    refine RLs.append (hR.mono fun p hp => .tail _ (.tail _ (List.mem_append.mpr (.inl hp)))) (.cons (RL.mk (.tail _ (.head _)) (RfAll.ints hIc)) .nil)
end

section
theorem top_off_C17 : True := by
  w_top off
  exact trivial
def keyS : List (List Int) → List Int
  | [] => []
  | l :: ls => ls.foldl (fun f x => f ++ [0] ++ x) l
theorem key_len : ∀ (ls : List (List Int)) (l : List Int), (∀ x ∈ ls, x.length ≤ 100) → (ls.foldl (fun f x => f ++ [0] ++ x) l).length ≤ l.length + 101 * ls.length
  | [], l, _ => by simp
  | x :: ls, l, h => by
    rw [List.foldl_cons]
    have h1 := key_len ls (l ++ [0] ++ x) fun y hy => h y (.tail _ hy)
    have h2 := h x (.head _)
    simp only [List.length_append, List.length_cons, List.length_nil] at h1 ⊢
    omega
@[reducible] def LkJ (ls : List (List Int)) (l0 : List Int) : Nat → List (Str × Value) → List (Addr × Obj) → Prop :=
  fun i ps nx => ∃ E us n, ps = [((Str.ofString "found"), .ref E)] ∧ nx = [(E, listOf (List.toArray us) n)] ∧ IntsAre us ((ls.take i).foldl (fun f x => f ++ [0] ++ x) l0)
set_option maxHeartbeats 16000000 in
theorem con_lkey (l0 : List Int) (ls : List (List Int)) (hl0 : l0.length ≤ 100) (hls : ls.length ≤ 10) (hle : ∀ x ∈ ls, x.length ≤ 100) : Con 162 1 (fun h vs => ∃ v, vs = [v] ∧ Rd h v (llP (l0 :: ls))) (fun tl r => Rf tl r (lP (keyS (l0 :: ls)))) := by
  unfold Con; k_fill
  intro w mean mg mb dp un gd cn cs a ccd cl outer A₀ base h₀ L m news s vs Q E B F X N T hk hP hd hu hret
  obtain ⟨v0, rfl, hP⟩ := hP
  refine wpAny_call ?_
  k_dflt (refine' code_defB (binds := [((Str.ofString "levels"), v0)]) ?k1 ?k2 ?k3 ?k5 ?kA ?kF ?kK ?k6 ?k7 ?k8 ?k9 ?kB ?_ ?c2 ?c3 ?c4 ?c5; (case kA => exact rfl); (case kF => exact rfl); (case kK => assumption); (case k1 => k_asm); (case k2 => k_asm); (case k3 => k_asm); (case k5 => k_asm); (case k6 => k_is); (case k7 => k_is); (case k8 => first | exact room_0 hd | (dsimp only [ktrTop]; omega)); (case k9 => first | exact BindsTo.of_eq rfl | exact binds_K (by k_in) rfl (by k_is) rfl rfl rfl); (case c5 => decide); (case kB => exact locs rfl); (case c2 => exact rfl); (case c3 => exact rfl); (case c4 => exact rfl); k_whole)
  intro g L' h₁ eg F' N' B' X' T'
  refine wpAny_mono (E := fun _ _ => False) (Q := fun fl s' => RetB g L' s (fun tl r => Rf tl r (lP (keyS (l0 :: ls)))) (match fl with | .ret v => v | _ => .none) s') ?_ (fun fl s' h => RetB.back eg F N hret h) (fun _ _ h => False.elim h)
  clear hret F N X T B
  dsimp only [List.reverse_cons, List.reverse_nil, List.nil_append, List.cons_append, List.reverse, List.reverseAux] at F'
  (try rw [← eg] at hP); clear eg
  obtain ⟨l, vs, rfl, hl, hlen, hget⟩ := rd_list hP
  cases vs with
  | nil => simp at hlen
  | cons v1 vs =>
  obtain ⟨d0, hd0, hr0⟩ := hget 0 v1 rfl
  obtain rfl : lP l0 = d0 := by simpa using hd0
  obtain ⟨la, va, rfl, hla, hIa⟩ := rd_ints hr0
  have hna := hIa.length
  clear hP
  (with_reducible show wpAny _ _ _ _ _ _); (try k_fold)
  (repeat' ((((fail_if_success (with_reducible show wpAny _ _ (isTrue (Expr.BoolOp _ _ _) _ _) _ _ _)); (((fail_if_success (with_reducible show wpAny _ _ (call (Value.ref _) _) _ _ _)); (fail_if_success (with_reducible show wpAny _ _ (exec (Stmt.While _ _ _ _) _) _ _ _)))))); (first | (k_unfold; (try dsimp only)) | (k_end; wrow_close) | walk1 | (dsimp only; walk1) | (leave1; walk_say "STEP leave1"; try dsimp only) | fail "no step")))
  (rename Fr _ _ _ _ => lF); (rename News _ _ _ _ => lN)
  rw [show PySem.slicePick (List.toArray (Value.ref la :: vs)) (some 1) none none = vs.toArray from slicePick_from' _ 1] at lN
  (rename News _ _ _ [_] => lO)
  have hlt := Heap.lt_size (lO _ (.head _)).1
  with_unfolding_all refine for_st _ [(_, listOf vs.toArray 0)] (LkJ ls l0) [((Str.ofString "found"), .ref _)] [(Str.ofString "level")] rfl lF lN (fun p hp => (List.mem_append.mp hp).elim (fun q => List.Mem.tail _ q) (fun q => by rw [List.mem_singleton.mp q]; exact .head _)) ?_ (fun h _ hp => ⟨_, hp _ (.head _), rfl, _, rfl⟩) ⟨_, va, _, rfl, rfl, hIa⟩ (by kst_all) ?_ ?_
  · intro p hp b hb e
    simp only [List.map_cons, List.map_nil, List.mem_singleton] at hp hb
    rw [hb] at e
    rw [← e, hp] at hlt
    exact absurd hlt (by simp)
  · clear lF lN lO hlt
    intro i v ps u nx h tk own hv ho hlo hp9a F₁ N₁
    ((try with_reducible show wpAny _ _ _ _ _ _); (try k_fold))
    obtain ⟨E, us, n, rfl, rfl, hIu⟩ := hp9a
    change Fr g L' h _ at F₁; change News g L' h _ at N₁
    obtain ⟨d, hd, hr⟩ := hget (i + 1) v (by simpa using hv)
    obtain ⟨x, hx, rfl⟩ : ∃ x, ls[i]? = some x ∧ lP x = d := by simpa using hd
    obtain ⟨lx, vx, rfl, hlx, hIx⟩ := rd_ints hr
    have hs1 := take_succ_fold (fun (f x : List Int) => f ++ [0] ++ x) l0 ls i x hx
    simp only [List.cons_append, List.nil_append] at N₁
    have hneE : ∀ p ∈ own, p.1 ≠ E := fun p hp => ho p hp E (by simp)
    generalize hf : (ls.take i).foldl (fun f x => f ++ [0] ++ x) l0 = f at *
    have hfl : f.length ≤ 2000 := by
      have h1 := key_len (ls.take i) l0 fun y hy => hle y (List.mem_of_mem_take hy)
      rw [hf, List.length_take] at h1
      omega
    have hxl : x.length ≤ 100 := hle x (List.mem_of_getElem? hx)
    have hul : us.length ≤ 2000 := by rw [hIu.length]; exact hfl
    have hvl : vx.length ≤ 100 := by rw [hIx.length]; exact hxl
    clear hd hr hget hv hla hIa hlo
    (with_reducible show wpAny _ _ _ _ _ _); (try k_fold)
    (repeat' ((((fail_if_success (with_reducible show wpAny _ _ (isTrue (Expr.BoolOp _ _ _) _ _) _ _ _)); (((fail_if_success (with_reducible show wpAny _ _ (call (Value.ref _) _) _ _ _)); (fail_if_success (with_reducible show wpAny _ _ (exec (Stmt.While _ _ _ _) _) _ _ _)))))); (first | (k_unfold; (try dsimp only)) | (k_end; wrow_close) | walk1 | (dsimp only; walk1) | (leave1; walk_say "STEP leave1"; try dsimp only) | fail "no step")))
    (rename Fr _ _ _ _ => F9); (rename News _ _ _ _ => N9); (rename IntsAre _ _ => hI9); (rename _ ∧ _ ∧ _ ∧ AllLt _ _ => l9)
    have l8 := ktn_ltOf l9.2.2.2
    with_unfolding_all exact StJ.end [((Str.ofString "found"), .ref _)] [(_, listOf (List.toArray _) 0)] F9 N9 (fun p hp => by rw [List.mem_singleton.mp hp]; exact .head _) (fun p hp => .tail _ (.tail _ (.tail _ (.tail _ hp)))) (fun p hp b hb => by rw [List.mem_singleton.mp hb]; exact Nat.ne_of_lt (l8 p hp)) ⟨_, _, 0, rfl, rfl, by rw [hs1]; exact hI9⟩ (by kst_all) (by (first | (intro z h2 h3; (try dsimp only at h2); (repeat (first | exact skc h3 | (with_reducible exact rfl) | (refine sk (ne_in h3 (by with_reducible first | exact nm_head | exact nm_tail nm_head | exact nm_tail (nm_tail nm_head) | exact nm_tail (nm_tail (nm_tail nm_head)) | exact nm_tail (nm_tail (nm_tail (nm_tail nm_head))) | exact nm_tail (nm_tail (nm_tail (nm_tail (nm_tail nm_head)))) | exact nm_tail (nm_tail (nm_tail (nm_tail (nm_tail (nm_tail nm_head))))) | exact nm_tail (nm_tail (nm_tail (nm_tail (nm_tail (nm_tail (nm_tail nm_head)))))) | exact nm_tail (nm_tail (nm_tail (nm_tail (nm_tail (nm_tail (nm_tail (nm_tail nm_head))))))))) ?_) | (refine sk (ne_h h2) ?_) | (refine sk (ne_h (ne_t h2)) ?_) | (refine sk (ne_h (ne_t (ne_t h2))) ?_) | fail "no name")); done) | (walk_say "OLDSAME"; (((try dsimp +zetaDelta only); intro z h2 h3; (try simp only [List.forall_mem_cons, List.not_mem_nil, false_implies, implies_true, and_true, ne_eq] at h2); (have h4 := h3); (simp only [List.contains_cons, List.contains_nil, Bool.or_false, Bool.or_eq_false_iff, beq_eq_false_iff_ne, ne_eq] at h3); ((simp only [kstB, h2, h3, h4, if_false, Bool.false_eq_true]) <;> rfl))))))
  · clear lF lN lO hlt
    intro ps u nx h tk hp9a _ F₁ N₁
    ((try with_reducible show wpAny _ _ _ _ _ _); (try k_fold))
    obtain ⟨E, us, n, rfl, rfl, hIu⟩ := hp9a
    change Fr g L' h _ at F₁; change News g L' h _ at N₁
    have hvl : vs.length = ls.length := by simpa using hlen
    rw [hvl, List.take_length] at hIu
    (with_reducible show wpAny _ _ _ _ _ _); (try k_fold)
    (repeat' ((((fail_if_success (with_reducible show wpAny _ _ (isTrue (Expr.BoolOp _ _ _) _ _) _ _ _)); (((fail_if_success (with_reducible show wpAny _ _ (call (Value.ref _) _) _ _ _)); (fail_if_success (with_reducible show wpAny _ _ (exec (Stmt.While _ _ _ _) _) _ _ _)))))); (first | (k_unfold; (try dsimp only)) | (k_end; wrow_close) | walk1 | (dsimp only; walk1) | (leave1; walk_say "STEP leave1"; try dsimp only) | fail "no step")))
    (rename Fr _ _ _ _ => F9); (rename News _ _ _ _ => N9)
    with_unfolding_all exact RetB.fin F9 N9 _ (fun p hp => hp) (Rf.list (.head _) (RfAll.ints hIu))
end

section
theorem top_off_C1e : True := by
  w_top off
  exact trivial
def elemOf (n : Int) : Elem :=
  let way := n.fmod 7
  let rest := n.fdiv 7
  if way < 3 then (256 + rest.fmod 5 + (rest.fdiv 5).fmod 2 * 65300, 32 + rest.fmod 2, 2 + (rest.fdiv 2).fmod 3, false)
  else if way = 3 then (0, 40 + rest.fmod 3, 2, false)
  else if way = 4 then (0, 0, 5 + rest.fmod 2, false)
  else if way = 5 then (10 + rest.fmod 3, 32, 2, true)
  else (0, 0, 0, false)
set_option maxHeartbeats 16000000 in
theorem con_element (n : Int) (h0 : 0 ≤ n) : Con 169 1 (fun _ vs => ∃ t, vs = [.int n t]) (fun tl r => Rf tl r (eP (elemOf n))) := by
  unfold Con; k_fill
  intro w mean mg mb dp un gd cn cs a ccd cl outer A₀ base h₀ L m news s vs Q E B F X N T hk hP hd hu hret
  obtain ⟨t, hP⟩ := hP
  subst hP
  have hP : True := trivial
  refine wpAny_call ?_
  k_dflt (refine' code_defB (binds := [((Str.ofString "cell"), .int n t)]) ?k1 ?k2 ?k3 ?k5 ?kA ?kF ?kK ?k6 ?k7 ?k8 ?k9 ?kB ?_ ?c2 ?c3 ?c4 ?c5; (case kA => exact rfl); (case kF => exact rfl); (case kK => assumption); (case k1 => k_asm); (case k2 => k_asm); (case k3 => k_asm); (case k5 => k_asm); (case k6 => k_is); (case k7 => k_is); (case k8 => first | exact room_0 hd | (dsimp only [ktrTop]; omega)); (case k9 => first | exact BindsTo.of_eq rfl | exact binds_K (by k_in) rfl (by k_is) rfl rfl rfl); (case c5 => decide); (case kB => exact locs rfl); (case c2 => exact rfl); (case c3 => exact rfl); (case c4 => exact rfl); k_whole)
  intro g L' h₁ eg F' N' B' X' T'
  refine wpAny_mono (E := fun _ _ => False) (Q := fun fl s' => RetB g L' s (fun tl r => Rf tl r (eP (elemOf n))) (match fl with | .ret v => v | _ => .none) s') ?_ (fun fl s' h => RetB.back eg F N hret h) (fun _ _ h => False.elim h)
  clear hret F N X T B
  dsimp only [List.reverse_cons, List.reverse_nil, List.nil_append, List.cons_append, List.reverse, List.reverseAux] at F'
  (try rw [← eg] at hP); clear eg
  (with_reducible show wpAny _ _ _ _ _ _); (try k_fold)
  k_steps
  all_goals ((rename Fr _ _ _ _ => F9); (rename News _ _ _ _ => N9))
  all_goals (
    with_unfolding_all refine RetB.fin F9 N9 _ (fun p hp => hp) ?_
    unfold elemOf
    dsimp only
    (repeat (first | rw [if_pos (by omega)] | rw [if_neg (by omega)]))
    exact Rf.tuple (by k_mem) (.cons .int (.cons .int (.cons .int (.cons .bool .nil)))))
end

section
theorem top_off_C19 : True := by
  w_top off
  exact trivial
theorem key_snoc (ls : List (List Int)) (x : List Int) : keyS (ls ++ [x]) = if ls = [] then x else keyS ls ++ 0 :: x := by
  cases ls with
  | nil => simp [keyS]
  | cons l ls => simp [keyS]
theorem keyS_nil : keyS [] = [] := rfl
theorem keyS_len (ls : List (List Int)) (h : ∀ x ∈ ls, x.length ≤ 100) : (keyS ls).length ≤ 101 * ls.length := by
  cases ls with
  | nil => simp [keyS]
  | cons l ls =>
    have h1 := key_len ls l fun y hy => h y (.tail _ hy)
    have h2 := h l (.head _)
    simp only [keyS, List.length_cons] at h1 ⊢
    omega
theorem lev_len (how : How) (str : Int) (bw : Bool) (ws : List Row) (hws : ws.length ≤ 100) : (∀ x ∈ levelsS how str bw ws, x.length ≤ 100) ∧ (levelsS how str bw ws).length ≤ 4 := by
  have n1 : ∀ f : Row → Int, (nz (ws.map f)).length ≤ 100 := fun f => by have := nz_len (ws.map f); rw [List.length_map] at this; omega
  have t1 : ∀ l : List Int, (trimR l).length ≤ l.length := fun l => by
    unfold trimR
    rw [List.length_reverse]
    have := (List.dropWhile_sublist (fun x => decide (x = (65535 : Int))) (l := l.reverse)).length_le
    rwa [List.length_reverse] at this
  constructor
  · intro x hx
    simp only [levelsS, List.mem_cons, List.mem_append] at hx
    rcases hx with rfl | hx | hx | hx
    · exact n1 _
    · split at hx
      · rw [List.mem_singleton.mp hx]; unfold lev2; cases bw
        · exact n1 _
        · simpa using n1 _
      · cases hx
    · split at hx
      · rw [List.mem_singleton.mp hx]; exact n1 _
      · cases hx
    · split at hx
      · rw [List.mem_singleton.mp hx]; unfold fourthS; cases how
        · exact n1 _
        · exact n1 _
        · exact n1 _
        · exact Nat.le_trans (t1 _) (n1 _)
      · cases hx
  · simp only [levelsS, List.length_cons, List.length_append]
    (repeat' split) <;> simp
@[reducible] def WkJ (ls : List (List Int)) : Nat → List (Str × Value) → List (Addr × Obj) → Prop :=
  fun i ps nx => ∃ D us n, ps = [((Str.ofString "is_first"), .bool (decide (i = 0))), ((Str.ofString "found"), .ref D)] ∧ nx = [(D, listOf (List.toArray us) n)] ∧ IntsAre us (keyS (ls.take i))
set_option maxHeartbeats 16000000 in
theorem con_wkey (how : How) (str : Int) (bw : Bool) (ws : List Row) (hws : ws.length ≤ 100) : Con 112 3 (fun h vs => ∃ v o, vs = [v, o] ∧ Rd h v (.list (ws.map rP)) ∧ OptAt h o how str bw) (fun tl r => RL tl r ((keyS (levelsS how str bw ws)).map .int)) := by
  unfold Con; k_fill
  intro w mean mg mb dp un gd cn cs a ccd cl outer A₀ base h₀ L m news s vs Q E B F X N T hk hP hd hu hret
  obtain ⟨v0, o0, rfl, hP⟩ := hP
  refine wpAny_call ?_
  k_dflt (refine' code_defB (binds := [((Str.ofString "weights"), v0), ((Str.ofString "options"), o0), ((Str.ofString "plain"), .none)]) ?k1 ?k2 ?k3 ?k5 ?kA ?kF ?kK ?k6 ?k7 ?k8 ?k9 ?kB ?_ ?c2 ?c3 ?c4 ?c5; (case kA => exact rfl); (case kF => exact rfl); (case kK => assumption); (case k1 => k_asm); (case k2 => k_asm); (case k3 => k_asm); (case k5 => k_asm); (case k6 => k_is); (case k7 => k_is); (case k8 => first | exact room_0 hd | (dsimp only [ktrTop]; omega)); (case k9 => first | exact BindsTo.of_eq rfl | exact binds_K (by k_in) rfl (by k_is) rfl rfl rfl); (case c5 => decide); (case kB => exact locs rfl); (case c2 => exact rfl); (case c3 => exact rfl); (case c4 => exact rfl); k_whole)
  intro g L' h₁ eg F' N' B' X' T'
  refine wpAny_mono (E := fun _ _ => False) (Q := fun fl s' => RetB g L' s (fun tl r => RL tl r ((keyS (levelsS how str bw ws)).map .int)) (match fl with | .ret v => v | _ => .none) s') ?_ (fun fl s' h => RetB.back eg F N hret h) (fun _ _ h => False.elim h)
  clear hret F N X T B
  dsimp only [List.reverse_cons, List.reverse_nil, List.nil_append, List.cons_append, List.reverse, List.reverseAux] at F'
  (try rw [← eg] at hP); clear eg
  obtain ⟨hP, hO⟩ := hP
  have hO' := hO
  obtain ⟨x, ox, es, n, t1, t2, t3, fa, u1, u2, u3, rfl, I, a1, a2, a3, a4, a5, a6, a7, T⟩ := hO'
  obtain ⟨l, hv0⟩ : ∃ l, v0 = .ref l := by obtain ⟨a, l, e, _⟩ := rd_list hP; exact ⟨a, e⟩
  subst hv0
  have hlev := lev_len how str bw ws hws
  (with_reducible show wpAny _ _ _ _ _ _); (try k_fold)
  (repeat' ((((fail_if_success (with_reducible show wpAny _ _ (isTrue (Expr.BoolOp _ _ _) _ _) _ _ _)); (((fail_if_success (with_reducible show wpAny _ _ (call (Value.ref _) _) _ _ _)); (fail_if_success (with_reducible show wpAny _ _ (exec (Stmt.While _ _ _ _) _) _ _ _)))))); (first | (k_unfold; (try dsimp only)) | (k_end; wrow_close) | walk1 | (dsimp only; walk1) | (leave1; walk_say "STEP leave1"; try dsimp only) | fail "no step")))
  with_unfolding_all refine' Con.use (con_levels how str bw ws hws) ?k1 ?k2 ?k3 ?k4 ?k5 ?kK ?kP ?kd ?ku ?_
  (((((case k1 => k_asm); (case k2 => k_asm); (case k3 => k_asm); (case k4 => k_asm); (case k5 => k_asm); (case kK => first | exact rfl | assumption))); (case kd => first | exact room_d hd (by decide) | (dsimp only [ktrTop]; simp only [recursionLimit] at *; omega)); (case ku => first | exact room_u hu (by decide) | (dsimp only [ktrTop]; simp only [cLine] at *; omega))))
  case kP => exact ⟨_, _, rfl, hP.keeps (Fr.keep (by k_asm)), hO.keeps (Fr.keep (by k_asm))⟩
  intro r1 tl1 h9 tk9 F1 N1 of1 P1
  generalize hls : levelsS how str bw ws = ls at *
  obtain ⟨lv, vs, nv, rfl, hmv, hRs⟩ := P1
  have hvl := hRs.length
  (try dsimp only)
  (rename Fr _ _ _ _ => lF); (rename News _ _ _ _ => lN)
  have ofD := fun p hp => of1 p hp _ (.tail _ (.head _))
  with_unfolding_all refine for_st [(_, listOf #[] 0)] tl1 (WkJ ls) [((Str.ofString "is_first"), .bool true), ((Str.ofString "found"), .ref _)] [(Str.ofString "level")] rfl lF lN (fun p hp => ?_) (fun p hp b hb => ?_) (fun h _ hp => ⟨_, hp _ hmv, rfl, _, rfl⟩) ⟨_, [], 0, rfl, rfl, .nil⟩ (by kst_all) ?_ ?_
  · rcases List.mem_append.mp hp with hp | hp
    · rw [List.mem_singleton.mp hp]; exact .tail _ (.head _)
    · exact List.mem_append.mpr (.inr hp)
  · rw [List.mem_singleton.mp hb]; exact ofD p hp
  · clear lF lN ofD of1
    intro i v ps u nx h tk own hv ho hlo hp9a F₁ N₁
    ((try with_reducible show wpAny _ _ _ _ _ _); (try k_fold))
    obtain ⟨D, us, n, rfl, rfl, hIu⟩ := hp9a
    change Fr g L' h _ at F₁; change News g L' h _ at N₁
    obtain ⟨x, hx, hrl⟩ := hRs.get i v hv
    have hil : i < ls.length := (List.getElem?_eq_some_iff.mp hx).1
    have hs1 : ls.take (i + 1) = ls.take i ++ [x] := by rw [List.take_add_one, hx]; rfl
    have hne : ls.take i = [] ↔ i = 0 := by
      rw [List.take_eq_nil_iff]; constructor
      · rintro (e | e)
        · exact e
        · rw [e] at hil; exact absurd hil (Nat.not_lt_zero _)
      · exact .inl
    have hkl : (keyS (ls.take i)).length ≤ 500 := by
      have := keyS_len (ls.take i) fun y hy => hlev.1 y (List.mem_of_mem_take hy)
      rw [List.length_take] at this
      omega
    have hul : us.length ≤ 500 := by rw [hIu.length]; exact hkl
    have hxl : x.length ≤ 100 := hlev.1 x (List.mem_of_getElem? hx)
    have hneD : ∀ p ∈ own, p.1 ≠ D := fun p hp => ho p hp D (by simp)
    simp only [List.cons_append, List.nil_append] at N₁
    obtain ⟨lx, vx, nx, rfl, hmx, hrx⟩ := rl_list hrl
    have hIx : IntsAre vx x := rfAll_ints N₁ (fun p hp => .tail _ (hlo p hp)) hrx
    have hvx : vx.length ≤ 100 := by rw [hIx.length]; exact hxl
    have hmx' := hlo _ hmx
    clear hv hrx hrl
    have hks := key_snoc (ls.take i) x
    rw [← hs1] at hks
    by_cases hi0 : i = 0
    · subst hi0
      rw [if_pos (hne.mpr rfl)] at hks
      rw [hne.mpr rfl, keyS_nil] at hIu
      cases hIu
      (with_reducible show wpAny _ _ _ _ _ _); (try k_fold)
      (repeat' ((fail_if_success (with_reducible show wpAny _ _ (call (Value.builtin "list.extend") _) _ _ _)); (fail_if_success (with_reducible show wpAny _ _ (isTrue (Expr.BoolOp _ _ _) _ _) _ _ _)); (fail_if_success (with_reducible show wpAny _ _ (call (Value.ref _) _) _ _ _)); (first | (k_unfold; (try dsimp only)) | (k_end; wrow_close) | walk1 | (dsimp only; walk1) | (leave1; walk_say "STEP leave1"; try dsimp only) | fail "no step")))
      (rename Fr _ _ _ _ => F9); (rename News _ _ _ _ => N9)
      with_unfolding_all refine extend_my F9 N9 hneD hmx' (by rw [sizeLine_eq]; simp; omega) ?_
      clear F9 N9
      intro h9 n9 F9 N9
      (with_reducible show wpAny _ _ _ _ _ _); (try k_fold)
      (repeat' ((((fail_if_success (with_reducible show wpAny _ _ (isTrue (Expr.BoolOp _ _ _) _ _) _ _ _)); (((fail_if_success (with_reducible show wpAny _ _ (call (Value.ref _) _) _ _ _)); (fail_if_success (with_reducible show wpAny _ _ (exec (Stmt.While _ _ _ _) _) _ _ _)))))); (first | (k_unfold; (try dsimp only)) | (k_end; wrow_close) | walk1 | (dsimp only; walk1) | (leave1; walk_say "STEP leave1"; try dsimp only) | fail "no step")))
      (rename Fr _ _ _ _ => F9); (rename News _ _ _ _ => N9)
      with_unfolding_all exact StJ.end [((Str.ofString "is_first"), .bool false), ((Str.ofString "found"), .ref D)] [(D, listOf (List.toArray ([] ++ vx)) n9)] F9 N9 (fun p hp => by rw [List.mem_singleton.mp hp]; exact .head _) (fun p hp => .tail _ hp) (fun p hp b hb => by rw [List.mem_singleton.mp hb]; exact hneD p hp) ⟨D, _, _, rfl, rfl, by rw [hks]; exact hIx⟩ (by kst_all) (by (first | (intro z h2 h3; (try dsimp only at h2); (repeat (first | exact skc h3 | (with_reducible exact rfl) | (refine sk (ne_in h3 (by with_reducible first | exact nm_head | exact nm_tail nm_head | exact nm_tail (nm_tail nm_head) | exact nm_tail (nm_tail (nm_tail nm_head)) | exact nm_tail (nm_tail (nm_tail (nm_tail nm_head))) | exact nm_tail (nm_tail (nm_tail (nm_tail (nm_tail nm_head)))) | exact nm_tail (nm_tail (nm_tail (nm_tail (nm_tail (nm_tail nm_head))))) | exact nm_tail (nm_tail (nm_tail (nm_tail (nm_tail (nm_tail (nm_tail nm_head)))))) | exact nm_tail (nm_tail (nm_tail (nm_tail (nm_tail (nm_tail (nm_tail (nm_tail nm_head))))))))) ?_) | (refine sk (ne_h h2) ?_) | (refine sk (ne_h (ne_t h2)) ?_) | (refine sk (ne_h (ne_t (ne_t h2))) ?_) | fail "no name")); done) | (walk_say "OLDSAME"; (((try dsimp +zetaDelta only); intro z h2 h3; (try simp only [List.forall_mem_cons, List.not_mem_nil, false_implies, implies_true, and_true, ne_eq] at h2); (have h4 := h3); (simp only [List.contains_cons, List.contains_nil, Bool.or_false, Bool.or_eq_false_iff, beq_eq_false_iff_ne, ne_eq] at h3); ((simp only [kstB, h2, h3, h4, if_false, Bool.false_eq_true]) <;> rfl))))))
    · rw [if_neg (fun e => hi0 (hne.mp e))] at hks
      (with_reducible show wpAny _ _ _ _ _ _); (try k_fold)
      (repeat' ((fail_if_success (with_reducible show wpAny _ _ (call (Value.builtin "list.extend") _) _ _ _)); (fail_if_success (with_reducible show wpAny _ _ (isTrue (Expr.BoolOp _ _ _) _ _) _ _ _)); (fail_if_success (with_reducible show wpAny _ _ (call (Value.ref _) _) _ _ _)); (first | (k_unfold; (try dsimp only)) | (k_end; wrow_close) | walk1 | (dsimp only; walk1) | (leave1; walk_say "STEP leave1"; try dsimp only) | fail "no step")))
      (rename Fr _ _ _ _ => F9); (rename News _ _ _ _ => N9)
      simp only [List.push_toArray] at N9
      with_unfolding_all refine extend_my F9 N9 hneD hmx' (by rw [sizeLine_eq]; simp; omega) ?_
      clear F9 N9
      intro h9 n9 F9 N9
      (with_reducible show wpAny _ _ _ _ _ _); (try k_fold)
      (repeat' ((((fail_if_success (with_reducible show wpAny _ _ (isTrue (Expr.BoolOp _ _ _) _ _) _ _ _)); (((fail_if_success (with_reducible show wpAny _ _ (call (Value.ref _) _) _ _ _)); (fail_if_success (with_reducible show wpAny _ _ (exec (Stmt.While _ _ _ _) _) _ _ _)))))); (first | (k_unfold; (try dsimp only)) | (k_end; wrow_close) | walk1 | (dsimp only; walk1) | (leave1; walk_say "STEP leave1"; try dsimp only) | fail "no step")))
      (rename Fr _ _ _ _ => F9); (rename News _ _ _ _ => N9)
      with_unfolding_all exact StJ.end [((Str.ofString "is_first"), .bool false), ((Str.ofString "found"), .ref D)] [(D, listOf (List.toArray ((us ++ [.int 0 _]) ++ vx)) _)] F9 N9 (fun p hp => by rw [List.mem_singleton.mp hp]; exact .head _) (fun p hp => .tail _ hp) (fun p hp b hb => by rw [List.mem_singleton.mp hb]; exact hneD p hp) ⟨D, _, _, by simp, rfl, by rw [hks, List.append_assoc]; exact hIu.append (.cons _ _ hIx)⟩ (by kst_all) (by (first | (intro z h2 h3; (try dsimp only at h2); (repeat (first | exact skc h3 | (with_reducible exact rfl) | (refine sk (ne_in h3 (by with_reducible first | exact nm_head | exact nm_tail nm_head | exact nm_tail (nm_tail nm_head) | exact nm_tail (nm_tail (nm_tail nm_head)) | exact nm_tail (nm_tail (nm_tail (nm_tail nm_head))) | exact nm_tail (nm_tail (nm_tail (nm_tail (nm_tail nm_head)))) | exact nm_tail (nm_tail (nm_tail (nm_tail (nm_tail (nm_tail nm_head))))) | exact nm_tail (nm_tail (nm_tail (nm_tail (nm_tail (nm_tail (nm_tail nm_head)))))) | exact nm_tail (nm_tail (nm_tail (nm_tail (nm_tail (nm_tail (nm_tail (nm_tail nm_head))))))))) ?_) | (refine sk (ne_h h2) ?_) | (refine sk (ne_h (ne_t h2)) ?_) | (refine sk (ne_h (ne_t (ne_t h2))) ?_) | fail "no name")); done) | (walk_say "OLDSAME"; (((try dsimp +zetaDelta only); intro z h2 h3; (try simp only [List.forall_mem_cons, List.not_mem_nil, false_implies, implies_true, and_true, ne_eq] at h2); (have h4 := h3); (simp only [List.contains_cons, List.contains_nil, Bool.or_false, Bool.or_eq_false_iff, beq_eq_false_iff_ne, ne_eq] at h3); ((simp only [kstB, h2, h3, h4, if_false, Bool.false_eq_true]) <;> rfl))))))
  · clear lF lN ofD of1
    intro ps u nx h tk hp9a _ F₁ N₁
    ((try with_reducible show wpAny _ _ _ _ _ _); (try k_fold))
    obtain ⟨D, us, n, rfl, rfl, hIu⟩ := hp9a
    change Fr g L' h _ at F₁; change News g L' h _ at N₁
    rw [hvl, List.take_length] at hIu
    (with_reducible show wpAny _ _ _ _ _ _); (try k_fold)
    k_steps
    all_goals ((rename Fr _ _ _ _ => F9); (rename News _ _ _ _ => N9))
    all_goals (with_unfolding_all exact RetB.fin F9 N9 _ (fun p hp => hp) (RL.mk (.head _) (RfAll.ints (by rw [hls]; exact hIu))))
end

section
theorem top_off_C22 : True := by
  w_top off
  exact trivial
theorem off1_mem {D : Addr} : ∀ {l : List (Addr × Obj)}, LCg.Off1 D l → ∀ p ∈ l, p.1 ≠ D
  | [], _, _, h => nomatch h
  | _ :: _, x, p, h => by
    rcases List.mem_cons.mp h with rfl | h
    · exact x.1
    · exact off1_mem x.2 p h
@[reducible] def WpJ (ls : List (List Int)) : Nat → List (Str × Value) → List (Addr × Obj) → Prop :=
  fun i ps nx => ∃ D us n, ps = [((Str.ofString "is_first"), .bool (decide (i = 0))), ((Str.ofString "found"), .ref D)] ∧ nx = [(D, listOf (List.toArray us) n)] ∧ IntsAre us (keyS (ls.take i))
set_option maxHeartbeats 16000000 in
theorem con_wkeyp (how : How) (bw : Bool) (ws : List Row) (hws : ws.length ≤ 100) (pl : List Int) (hpl : pl.length ≤ 100 ∧ ∀ x ∈ pl, 0 ≤ x ∧ x ≤ 1000) : Con 112 3 (fun h vs => ∃ v o q, vs = [v, o, q] ∧ Rd h v (.list (ws.map rP)) ∧ OptAt h o how 5 bw ∧ Rd h q (lP pl)) (fun tl r => RL tl r ((keyS (levelsS how 5 bw ws) ++ 0 :: pl.map (· + 2)).map .int)) := by
  unfold Con; k_fill
  intro w mean mg mb dp un gd cn cs a ccd cl outer A₀ base h₀ L m news s vs Q E B F X N T hk hP hd hu hret
  obtain ⟨v0, o0, q0, rfl, hP⟩ := hP
  refine wpAny_call ?_
  k_dflt (refine' code_defB (binds := [((Str.ofString "weights"), v0), ((Str.ofString "options"), o0), ((Str.ofString "plain"), q0)]) ?k1 ?k2 ?k3 ?k5 ?kA ?kF ?kK ?k6 ?k7 ?k8 ?k9 ?kB ?_ ?c2 ?c3 ?c4 ?c5; (case kA => exact rfl); (case kF => exact rfl); (case kK => assumption); (case k1 => k_asm); (case k2 => k_asm); (case k3 => k_asm); (case k5 => k_asm); (case k6 => k_is); (case k7 => k_is); (case k8 => first | exact room_0 hd | (dsimp only [ktrTop]; omega)); (case k9 => first | exact BindsTo.of_eq rfl | exact binds_K (by k_in) rfl (by k_is) rfl rfl rfl); (case c5 => decide); (case kB => exact locs rfl); (case c2 => exact rfl); (case c3 => exact rfl); (case c4 => exact rfl); k_whole)
  intro g L' h₁ eg F' N' B' X' T'
  refine wpAny_mono (E := fun _ _ => False) (Q := fun fl s' => RetB g L' s (fun tl r => RL tl r ((keyS (levelsS how 5 bw ws) ++ 0 :: pl.map (· + 2)).map .int)) (match fl with | .ret v => v | _ => .none) s') ?_ (fun fl s' h => RetB.back eg F N hret h) (fun _ _ h => False.elim h)
  clear hret F N X T B
  dsimp only [List.reverse_cons, List.reverse_nil, List.nil_append, List.cons_append, List.reverse, List.reverseAux] at F'
  (try rw [← eg] at hP); clear eg
  obtain ⟨hP, hO, hQ⟩ := hP
  obtain ⟨lq, vq, rfl, hlq, hIq⟩ := rd_ints hQ
  have hO' := hO
  obtain ⟨x, ox, es, n, t1, t2, t3, fa, u1, u2, u3, rfl, I, a1, a2, a3, a4, a5, a6, a7, T⟩ := hO'
  obtain ⟨l, hv0⟩ : ∃ l, v0 = .ref l := by obtain ⟨a, l, e, _⟩ := rd_list hP; exact ⟨a, e⟩
  subst hv0
  have hlev := lev_len how 5 bw ws hws
  (with_reducible show wpAny _ _ _ _ _ _); (try k_fold)
  (repeat' ((((fail_if_success (with_reducible show wpAny _ _ (isTrue (Expr.BoolOp _ _ _) _ _) _ _ _)); (((fail_if_success (with_reducible show wpAny _ _ (call (Value.ref _) _) _ _ _)); (fail_if_success (with_reducible show wpAny _ _ (exec (Stmt.While _ _ _ _) _) _ _ _)))))); (first | (k_unfold; (try dsimp only)) | (k_end; wrow_close) | walk1 | (dsimp only; walk1) | (leave1; walk_say "STEP leave1"; try dsimp only) | fail "no step")))
  with_unfolding_all refine' Con.use (con_levels how 5 bw ws hws) ?k1 ?k2 ?k3 ?k4 ?k5 ?kK ?kP ?kd ?ku ?_
  (((((case k1 => k_asm); (case k2 => k_asm); (case k3 => k_asm); (case k4 => k_asm); (case k5 => k_asm); (case kK => first | exact rfl | assumption))); (case kd => first | exact room_d hd (by decide) | (dsimp only [ktrTop]; simp only [recursionLimit] at *; omega)); (case ku => first | exact room_u hu (by decide) | (dsimp only [ktrTop]; simp only [cLine] at *; omega))))
  case kP => exact ⟨_, _, rfl, hP.keeps (Fr.keep (by k_asm)), hO.keeps (Fr.keep (by k_asm))⟩
  intro r1 tl1 h9 tk9 F1 N1 of1 P1
  generalize hls : levelsS how 5 bw ws = ls at *
  obtain ⟨lv, vs, nv, rfl, hmv, hRs⟩ := P1
  have hvl := hRs.length
  (try dsimp only)
  (rename Fr _ _ _ _ => lF); (rename News _ _ _ _ => lN)
  have ofD := fun p hp => of1 p hp _ (.tail _ (.head _))
  with_unfolding_all refine for_st [(_, listOf #[] 0)] tl1 (WpJ ls) [((Str.ofString "is_first"), .bool true), ((Str.ofString "found"), .ref _)] [(Str.ofString "level")] rfl lF lN (fun p hp => ?_) (fun p hp b hb => ?_) (fun h _ hp => ⟨_, hp _ hmv, rfl, _, rfl⟩) ⟨_, [], 0, rfl, rfl, .nil⟩ (by kst_all) ?_ ?_
  · rcases List.mem_append.mp hp with hp | hp
    · rw [List.mem_singleton.mp hp]; exact .tail _ (.head _)
    · exact List.mem_append.mpr (.inr hp)
  · rw [List.mem_singleton.mp hb]; exact ofD p hp
  · clear lF lN ofD of1
    intro i v ps u nx h tk own hv ho hlo hp9a F₁ N₁
    ((try with_reducible show wpAny _ _ _ _ _ _); (try k_fold))
    obtain ⟨D, us, n, rfl, rfl, hIu⟩ := hp9a
    change Fr g L' h _ at F₁; change News g L' h _ at N₁
    obtain ⟨x, hx, hrl⟩ := hRs.get i v hv
    have hil : i < ls.length := (List.getElem?_eq_some_iff.mp hx).1
    have hs1 : ls.take (i + 1) = ls.take i ++ [x] := by rw [List.take_add_one, hx]; rfl
    have hne : ls.take i = [] ↔ i = 0 := by
      rw [List.take_eq_nil_iff]; constructor
      · rintro (e | e)
        · exact e
        · rw [e] at hil; exact absurd hil (Nat.not_lt_zero _)
      · exact .inl
    have hkl : (keyS (ls.take i)).length ≤ 500 := by
      have := keyS_len (ls.take i) fun y hy => hlev.1 y (List.mem_of_mem_take hy)
      rw [List.length_take] at this
      omega
    have hul : us.length ≤ 500 := by rw [hIu.length]; exact hkl
    have hxl : x.length ≤ 100 := hlev.1 x (List.mem_of_getElem? hx)
    have hneD : ∀ p ∈ own, p.1 ≠ D := fun p hp => ho p hp D (by simp)
    simp only [List.cons_append, List.nil_append] at N₁
    obtain ⟨lx, vx, nx, rfl, hmx, hrx⟩ := rl_list hrl
    have hIx : IntsAre vx x := rfAll_ints N₁ (fun p hp => .tail _ (hlo p hp)) hrx
    have hvx : vx.length ≤ 100 := by rw [hIx.length]; exact hxl
    have hmx' := hlo _ hmx
    clear hv hrx hrl
    have hks := key_snoc (ls.take i) x
    rw [← hs1] at hks
    by_cases hi0 : i = 0
    · subst hi0
      rw [if_pos (hne.mpr rfl)] at hks
      rw [hne.mpr rfl, keyS_nil] at hIu
      cases hIu
      (with_reducible show wpAny _ _ _ _ _ _); (try k_fold)
      (repeat' ((fail_if_success (with_reducible show wpAny _ _ (call (Value.builtin "list.extend") _) _ _ _)); (fail_if_success (with_reducible show wpAny _ _ (isTrue (Expr.BoolOp _ _ _) _ _) _ _ _)); (fail_if_success (with_reducible show wpAny _ _ (call (Value.ref _) _) _ _ _)); (first | (k_unfold; (try dsimp only)) | (k_end; wrow_close) | walk1 | (dsimp only; walk1) | (leave1; walk_say "STEP leave1"; try dsimp only) | fail "no step")))
      (rename Fr _ _ _ _ => F9); (rename News _ _ _ _ => N9)
      with_unfolding_all refine extend_my F9 N9 hneD hmx' (by rw [sizeLine_eq]; simp; omega) ?_
      clear F9 N9
      intro h9 n9 F9 N9
      (with_reducible show wpAny _ _ _ _ _ _); (try k_fold)
      (repeat' ((((fail_if_success (with_reducible show wpAny _ _ (isTrue (Expr.BoolOp _ _ _) _ _) _ _ _)); (((fail_if_success (with_reducible show wpAny _ _ (call (Value.ref _) _) _ _ _)); (fail_if_success (with_reducible show wpAny _ _ (exec (Stmt.While _ _ _ _) _) _ _ _)))))); (first | (k_unfold; (try dsimp only)) | (k_end; wrow_close) | walk1 | (dsimp only; walk1) | (leave1; walk_say "STEP leave1"; try dsimp only) | fail "no step")))
      (rename Fr _ _ _ _ => F9); (rename News _ _ _ _ => N9)
      with_unfolding_all exact StJ.end [((Str.ofString "is_first"), .bool false), ((Str.ofString "found"), .ref D)] [(D, listOf (List.toArray ([] ++ vx)) n9)] F9 N9 (fun p hp => by rw [List.mem_singleton.mp hp]; exact .head _) (fun p hp => .tail _ hp) (fun p hp b hb => by rw [List.mem_singleton.mp hb]; exact hneD p hp) ⟨D, _, _, rfl, rfl, by rw [hks]; exact hIx⟩ (by kst_all) (by (first | (intro z h2 h3; (try dsimp only at h2); (repeat (first | exact skc h3 | (with_reducible exact rfl) | (refine sk (ne_in h3 (by with_reducible first | exact nm_head | exact nm_tail nm_head | exact nm_tail (nm_tail nm_head) | exact nm_tail (nm_tail (nm_tail nm_head)) | exact nm_tail (nm_tail (nm_tail (nm_tail nm_head))) | exact nm_tail (nm_tail (nm_tail (nm_tail (nm_tail nm_head)))) | exact nm_tail (nm_tail (nm_tail (nm_tail (nm_tail (nm_tail nm_head))))) | exact nm_tail (nm_tail (nm_tail (nm_tail (nm_tail (nm_tail (nm_tail nm_head)))))) | exact nm_tail (nm_tail (nm_tail (nm_tail (nm_tail (nm_tail (nm_tail (nm_tail nm_head))))))))) ?_) | (refine sk (ne_h h2) ?_) | (refine sk (ne_h (ne_t h2)) ?_) | (refine sk (ne_h (ne_t (ne_t h2))) ?_) | fail "no name")); done) | (walk_say "OLDSAME"; (((try dsimp +zetaDelta only); intro z h2 h3; (try simp only [List.forall_mem_cons, List.not_mem_nil, false_implies, implies_true, and_true, ne_eq] at h2); (have h4 := h3); (simp only [List.contains_cons, List.contains_nil, Bool.or_false, Bool.or_eq_false_iff, beq_eq_false_iff_ne, ne_eq] at h3); ((simp only [kstB, h2, h3, h4, if_false, Bool.false_eq_true]) <;> rfl))))))
    · rw [if_neg (fun e => hi0 (hne.mp e))] at hks
      (with_reducible show wpAny _ _ _ _ _ _); (try k_fold)
      (repeat' ((fail_if_success (with_reducible show wpAny _ _ (call (Value.builtin "list.extend") _) _ _ _)); (fail_if_success (with_reducible show wpAny _ _ (isTrue (Expr.BoolOp _ _ _) _ _) _ _ _)); (fail_if_success (with_reducible show wpAny _ _ (call (Value.ref _) _) _ _ _)); (first | (k_unfold; (try dsimp only)) | (k_end; wrow_close) | walk1 | (dsimp only; walk1) | (leave1; walk_say "STEP leave1"; try dsimp only) | fail "no step")))
      (rename Fr _ _ _ _ => F9); (rename News _ _ _ _ => N9)
      simp only [List.push_toArray] at N9
      with_unfolding_all refine extend_my F9 N9 hneD hmx' (by rw [sizeLine_eq]; simp; omega) ?_
      clear F9 N9
      intro h9 n9 F9 N9
      (with_reducible show wpAny _ _ _ _ _ _); (try k_fold)
      (repeat' ((((fail_if_success (with_reducible show wpAny _ _ (isTrue (Expr.BoolOp _ _ _) _ _) _ _ _)); (((fail_if_success (with_reducible show wpAny _ _ (call (Value.ref _) _) _ _ _)); (fail_if_success (with_reducible show wpAny _ _ (exec (Stmt.While _ _ _ _) _) _ _ _)))))); (first | (k_unfold; (try dsimp only)) | (k_end; wrow_close) | walk1 | (dsimp only; walk1) | (leave1; walk_say "STEP leave1"; try dsimp only) | fail "no step")))
      (rename Fr _ _ _ _ => F9); (rename News _ _ _ _ => N9)
      with_unfolding_all exact StJ.end [((Str.ofString "is_first"), .bool false), ((Str.ofString "found"), .ref D)] [(D, listOf (List.toArray ((us ++ [.int 0 _]) ++ vx)) _)] F9 N9 (fun p hp => by rw [List.mem_singleton.mp hp]; exact .head _) (fun p hp => .tail _ hp) (fun p hp b hb => by rw [List.mem_singleton.mp hb]; exact hneD p hp) ⟨D, _, _, by simp, rfl, by rw [hks, List.append_assoc]; exact hIu.append (.cons _ _ hIx)⟩ (by kst_all) (by (first | (intro z h2 h3; (try dsimp only at h2); (repeat (first | exact skc h3 | (with_reducible exact rfl) | (refine sk (ne_in h3 (by with_reducible first | exact nm_head | exact nm_tail nm_head | exact nm_tail (nm_tail nm_head) | exact nm_tail (nm_tail (nm_tail nm_head)) | exact nm_tail (nm_tail (nm_tail (nm_tail nm_head))) | exact nm_tail (nm_tail (nm_tail (nm_tail (nm_tail nm_head)))) | exact nm_tail (nm_tail (nm_tail (nm_tail (nm_tail (nm_tail nm_head))))) | exact nm_tail (nm_tail (nm_tail (nm_tail (nm_tail (nm_tail (nm_tail nm_head)))))) | exact nm_tail (nm_tail (nm_tail (nm_tail (nm_tail (nm_tail (nm_tail (nm_tail nm_head))))))))) ?_) | (refine sk (ne_h h2) ?_) | (refine sk (ne_h (ne_t h2)) ?_) | (refine sk (ne_h (ne_t (ne_t h2))) ?_) | fail "no name")); done) | (walk_say "OLDSAME"; (((try dsimp +zetaDelta only); intro z h2 h3; (try simp only [List.forall_mem_cons, List.not_mem_nil, false_implies, implies_true, and_true, ne_eq] at h2); (have h4 := h3); (simp only [List.contains_cons, List.contains_nil, Bool.or_false, Bool.or_eq_false_iff, beq_eq_false_iff_ne, ne_eq] at h3); ((simp only [kstB, h2, h3, h4, if_false, Bool.false_eq_true]) <;> rfl))))))
  · clear lF lN ofD of1
    intro ps u nx h tk hp9a ho F₁ N₁
    ((try with_reducible show wpAny _ _ _ _ _ _); (try k_fold))
    obtain ⟨D, us, n, rfl, rfl, hIu⟩ := hp9a
    change Fr g L' h _ at F₁; change News g L' h _ at N₁
    rw [hvl, List.take_length] at hIu
    have hneD : ∀ p ∈ tl1, p.1 ≠ D := fun p hp => ho p hp D (by simp)
    have hkl : us.length ≤ 500 := by
      have := keyS_len ls hlev.1
      rw [hIu.length]
      omega
    have hqn := hIq.length
    simp only [List.cons_append, List.nil_append] at N₁
    (with_reducible show wpAny _ _ _ _ _ _); (try k_fold)
    (repeat' ((fail_if_success (with_reducible show wpAny _ _ (call (Value.builtin "list.extend") _) _ _ _)); (fail_if_success (with_reducible show wpAny _ _ (isTrue (Expr.BoolOp _ _ _) _ _) _ _ _)); (fail_if_success (with_reducible show wpAny _ _ (call (Value.ref _) _) _ _ _)); (first | (k_unfold; (try dsimp only)) | (k_end; wrow_close) | walk1 | (dsimp only; walk1) | (leave1; walk_say "STEP leave1"; try dsimp only) | fail "no step")))
    refine cut_test True ?_ ?_ ?_
    · k_steps
      all_goals ((((repeat (rename Fr _ _ _ _ => x9; clear x9)); (repeat (rename News _ _ _ _ => x9; clear x9)); (repeat (rename RfAll _ _ _ => x9; clear x9)); (repeat (rename IsTup _ _ _ => x9; clear x9)); (repeat (rename Below _ _ _ _ => x9; clear x9)); (repeat (rename Top _ _ _ _ _ _ => x9; clear x9)); (repeat (rename Frag.In _ _ => x9; clear x9)))); simp_all; done)
    · intro tk9 _
      simp only [if_true]
      (repeat' ((fail_if_success (with_reducible show wpAny _ _ (call (Value.builtin "list.extend") _) _ _ _)); (fail_if_success (with_reducible show wpAny _ _ (isTrue (Expr.BoolOp _ _ _) _ _) _ _ _)); (fail_if_success (with_reducible show wpAny _ _ (call (Value.ref _) _) _ _ _)); (first | (k_unfold; (try dsimp only)) | (k_end; wrow_close) | walk1 | (dsimp only; walk1) | (leave1; walk_say "STEP leave1"; try dsimp only) | fail "no step")))
      (rename Fr _ _ _ _ => lF); (rename News _ _ _ _ => lN)
      refine comp_list (fun i => ((pl.take i).map (· + 2)).map .int) rfl lF lN (.inl hlq) (by rw [hqn]; first | exact fit100 (by assumption) | exact fit1000 (by assumption) | exact fit500 (by assumption) | (rw [sizeLine_eq]; omega)) rfl ?_ ?_
      · intro i v ys tl I' oI C oC D₂ m₂ h tk E' hv hR hC hx F₁ N₁ off ne
        ((try with_reducible show wpAny _ _ _ _ _ _); (try k_fold))
        obtain ⟨x, t, rfl, hx2⟩ := hIq.at i v hv
        have hxr := hpl.2 x (List.mem_of_getElem? hx2)
        have hs1 := map_take_succ (· + 2) pl i _ hx2
        clear lF lN
        (try k_fold)
        k_steps
        (rename Fr _ _ _ _ => F9); (rename News _ _ _ _ => N9)
        refine LCg.CompEnd.intro F9 N9 _ (fun _ h => h) off (.inl hlq) ⟨tl, rfl, ?_⟩
        (try dsimp only)
        rw [hs1, List.map_append]; exact hR.append (.cons Rf.int .nil)
      · intro g9 tl ys hR
        intro D₂ h9 tk9 F9 N9 o9
        clear lF lN
        have e1 : pl.take vq.length = pl := by rw [List.take_of_length_le]; rw [hqn]; exact Nat.le_refl _
        rw [e1] at hR
        have hI : IntsAre ys (pl.map (· + 2)) := rfAll_ints N9 (fun p hp => .tail _ (List.mem_append.mpr (.inl hp))) hR
        (repeat' ((fail_if_success (with_reducible show wpAny _ _ (call (Value.builtin "list.extend") _) _ _ _)); (fail_if_success (with_reducible show wpAny _ _ (isTrue (Expr.BoolOp _ _ _) _ _) _ _ _)); (fail_if_success (with_reducible show wpAny _ _ (call (Value.ref _) _) _ _ _)); (first | (k_unfold; (try dsimp only)) | (k_end; wrow_close) | walk1 | (dsimp only; walk1) | (leave1; walk_say "STEP leave1"; try dsimp only) | fail "no step")))
        simp only [List.push_toArray] at N9
        have hDD : ∀ p ∈ (D₂, LCg.lst ys) :: tl1, p.1 ≠ D := fun p hp => by
          rcases List.mem_cons.mp hp with rfl | hp
          · exact Ne.symm (off1_mem o9 (D, _) (List.mem_append.mpr (.inr (.head _))))
          · exact hneD p hp
        have hyl : ys.length ≤ 100 := by rw [hI.length, List.length_map]; exact hpl.1
        have N8 : News g L' h9 ((D, listOf (List.toArray (us ++ [.int 0 _])) (n + 1)) :: (D₂, LCg.lst ys) :: tl1) := fun p hp => N9 p (by
          rcases List.mem_cons.mp hp with rfl | hp
          · exact .tail _ (List.mem_append.mpr (.inr (.head _)))
          · rcases List.mem_cons.mp hp with rfl | hp
            · exact .head _
            · exact .tail _ (List.mem_append.mpr (.inr (.tail _ hp))))
        clear N9 o9 hR
        with_unfolding_all refine extend_my F9 N8 hDD (.head _) (by rw [sizeLine_eq]; simp; omega) ?_
        clear F9 N8
        intro h8 n8 F8 N8
        (with_reducible show wpAny _ _ _ _ _ _); (try k_fold)
        k_steps
        (rename Fr _ _ _ _ => F9); (rename News _ _ _ _ => N9)
        with_unfolding_all exact RetB.fin F9 N9 _ (fun p hp => hp) (RL.mk (.head _) (RfAll.ints (by rw [hls]; simp only [List.append_assoc]; exact hIu.append (.cons _ _ hI))))
    · intro tk9 hC
      exact absurd trivial hC
end

section
theorem top_off_C20 : True := by
  w_top off
  exact trivial
def oct (w : Int) : List Int := if w < 65535 then [w / 256, w % 256] else [255, 255, w / 2 ^ 32 % 256, w / 2 ^ 24 % 256, w / 2 ^ 16 % 256, w / 2 ^ 8 % 256, w % 256]
def oct5 (w : Int) : List Int := [w / 2 ^ 32 % 256, w / 2 ^ 24 % 256, w / 2 ^ 16 % 256, w / 2 ^ 8 % 256, w % 256]
theorem oct_32 (x : Int) : Builtin.bitAnd (x.fdiv (2 ^ Int.toNat 32)) 255 = x / 2 ^ 32 % 256 := by rw [bitAnd_m8, Int.fdiv_eq_ediv_of_nonneg _ (by decide)]; rfl
theorem oct_24 (x : Int) : Builtin.bitAnd (x.fdiv (2 ^ Int.toNat 24)) 255 = x / 2 ^ 24 % 256 := by rw [bitAnd_m8, Int.fdiv_eq_ediv_of_nonneg _ (by decide)]; rfl
theorem oct_16 (x : Int) : Builtin.bitAnd (x.fdiv (2 ^ Int.toNat 16)) 255 = x / 2 ^ 16 % 256 := by rw [bitAnd_m8, Int.fdiv_eq_ediv_of_nonneg _ (by decide)]; rfl
theorem oct_8 (x : Int) : Builtin.bitAnd (x.fdiv (2 ^ Int.toNat 8)) 255 = x / 2 ^ 8 % 256 := by rw [bitAnd_m8, Int.fdiv_eq_ediv_of_nonneg _ (by decide)]; rfl
theorem oct_0 (x : Int) : Builtin.bitAnd (x.fdiv (2 ^ Int.toNat 0)) 255 = x % 256 := by rw [bitAnd_m8, Int.fdiv_eq_ediv_of_nonneg _ (by decide)]; simp
def octS (key : List Int) : List Int := key.flatMap oct
theorem octS_len : ∀ key : List Int, (octS key).length ≤ 7 * key.length
  | [] => by simp [octS]
  | w :: key => by
    have h := octS_len key
    have : (oct w).length ≤ 7 := by unfold oct; split <;> simp
    simp only [octS, List.flatMap_cons, List.length_append, List.length_cons] at h ⊢
    omega
theorem oct_in (x : Int) (h : 0 ≤ x ∧ x < 2 ^ 31) : KBa.In (oct x) := by
  intro n hn
  unfold oct at hn
  split at hn <;> simp only [List.mem_cons, List.not_mem_nil, or_false] at hn <;> omega
theorem octS_in : ∀ (key : List Int), (∀ x ∈ key, 0 ≤ x ∧ x < 2 ^ 31) → KBa.In (octS key)
  | [], _ => by intro n hn; cases hn
  | x :: key, h => by
    intro n hn
    rw [octS, List.flatMap_cons, List.mem_append] at hn
    exact hn.elim (oct_in x (h x (.head _)) n) (octS_in key (fun y hy => h y (.tail _ hy)) n)
theorem oct_hi (x : Int) : x.fdiv (2 ^ Int.toNat 8) = x / 256 := Int.fdiv_eq_ediv_of_nonneg _ (by decide)
theorem octS_snoc (key : List Int) (x : Int) : octS (key ++ [x]) = octS key ++ oct x := by simp [octS]
local macro_rules | `(tactic| walk_at "eval ListComp") => `(tactic| (k_here; k_dflt ((with_reducible show wpAny _ _ (eval (Expr.ListComp _ [⟨_, _, [], _⟩] _ _) _) _ _ _); (refine' cs_Tp (_F₀ := by k_asm) ?a3 ?a4 ?a5 ?a6 ?a7 ?_); (case a3 => with_unfolding_all rfl); (case a4 => decide); (case a5 => rfl); (case a6 => decide); (case a7 => rfl))))
@[reducible] def OcJ (key : List Int) (L' : Addr) : Nat → List (Str × Value) → List (Addr × Obj) → Prop :=
  fun i ps nx => ∃ D us n oc v0, ps = [((Str.ofString "found"), .ref D)] ∧ nx = [(D, listOf (List.toArray us) n), (L' + 1, oc)] ∧ oc.data = .cell v0 ∧ @LT.lt Nat _ (L' + 1) D ∧ IntsAre us (octS (key.take i))
set_option maxHeartbeats 16000000 in
theorem con_oct (key : List Int) (hk : key.length ≤ 1000) (hr : ∀ x ∈ key, 0 ≤ x ∧ x < 2 ^ 31) : Con 117 1 (fun h vs => ∃ v, vs = [v] ∧ Rd h v (.list (key.map .int))) (fun tl r => ∃ t, r = .bytes (byteArr (octS key)) t) := by
  unfold Con; k_fill
  intro w mean mg mb dp un gd cn cs a ccd cl outer A₀ base h₀ L m news s vs Q E B F X N T hk hP hd hu hret
  obtain ⟨v0, rfl, hP⟩ := hP
  refine wpAny_call ?_
  k_dflt (refine' code_defCB (binds := [((Str.ofString "key"), v0)]) ?k1 ?k2 ?k3 ?k5 ?kA ?kF ?kK ?k6 ?k7 ?k8 ?k9 ?kB ?kD ?_ ?c2 ?c3 ?c4; (case kA => exact rfl); (case kF => exact rfl); (case kK => assumption); (case k1 => k_asm); (case k2 => k_asm); (case k3 => k_asm); (case k5 => k_asm); (case k6 => k_is); (case k7 => k_is); (case k8 => first | exact room_0 hd | (dsimp only [ktrTop]; omega)); (case k9 => first | exact BindsTo.of_eq rfl | exact binds_K (by k_in) rfl (by k_is) rfl rfl rfl); (case kB => exact rfl); (case kD => decide +kernel); (case c2 => exact rfl); (case c3 => exact rfl); (case c4 => exact rfl); k_whole)
  intro g L' h₁ tkC cells' eg F' N' Y' B' X' T'
  k_cells Y'
  refine wpAny_mono (E := fun _ _ => False) (Q := fun fl s' => RetB g L' s (fun tl r => ∃ t, r = .bytes (byteArr (octS key)) t) (match fl with | .ret v => v | _ => .none) s') ?_ (fun fl s' h => RetB.back eg F N hret h) (fun _ _ h => False.elim h)
  clear hret F N X T B
  (try rw [← eg] at hP); clear eg
  obtain ⟨l, vs, rfl, hl, hI⟩ := rd_ints hP
  have hlen := hI.length
  clear hP
  (with_reducible show wpAny _ _ _ _ _ _); (try k_fold)
  (repeat' ((((fail_if_success (with_reducible show wpAny _ _ (isTrue (Expr.BoolOp _ _ _) _ _) _ _ _)); (((fail_if_success (with_reducible show wpAny _ _ (call (Value.ref _) _) _ _ _)); (fail_if_success (with_reducible show wpAny _ _ (exec (Stmt.While _ _ _ _) _) _ _ _)))))); (first | (k_unfold; (try dsimp only)) | (k_end; wrow_close) | walk1 | (dsimp only; walk1) | (leave1; walk_say "STEP leave1"; try dsimp only) | fail "no step")))
  (rename Fr _ _ _ _ => lF); (rename @LT.lt Nat _ _ _ => lL)
  have lN := (by assumption : News g L' _ [_, _])
  with_unfolding_all refine for_st [(_, listOf #[] 0), (L' + 1, _)] [] (OcJ key L') [((Str.ofString "found"), .ref _)] [] rfl lF lN (fun p hp => hp) (List.forall_mem_nil _) (isList_in hl) ⟨_, [], 0, _, _, rfl, rfl, by assumption, lL, .nil⟩ (by kst_all) ?_ ?_
  · clear lF lN lL
    intro i v ps u nx h tk own hv ho hlo hp9a F₁ N₁
    ((try with_reducible show wpAny _ _ _ _ _ _); (try k_fold))
    obtain ⟨D, us, n, oc, v0, rfl, rfl, hoc, hLD, hIu⟩ := hp9a
    change Fr g L' h _ at F₁; change News g L' h _ at N₁
    obtain ⟨x, t, rfl, hx⟩ := hI.at i v hv
    have hxr := hr x (List.mem_of_getElem? hx)
    have hil : i < key.length := (List.getElem?_eq_some_iff.mp hx).1
    have hul : us.length ≤ 7000 := by
      rw [hIu.length]
      have := octS_len (key.take i)
      rw [List.length_take] at this
      omega
    have hnD : ∀ p ∈ own, p.1 ≠ D := fun p hp => ho p hp D (by simp)
    have hnL : ∀ p ∈ own, p.1 ≠ L' + 1 := fun p hp => ho p hp (L' + 1) (by simp)
    simp only [List.cons_append, List.nil_append] at N₁
    clear hv hlo
    (with_reducible show wpAny _ _ _ _ _ _); (try k_fold)
    (repeat' ((fail_if_success (with_reducible show wpAny _ _ (call (Value.builtin "list.extend") _) _ _ _)); (fail_if_success (with_reducible show wpAny _ _ (isTrue (Expr.BoolOp _ _ _) _ _) _ _ _)); (fail_if_success (with_reducible show wpAny _ _ (call (Value.ref _) _) _ _ _)); (first | (k_unfold; (try dsimp only)) | (k_end; wrow_close) | walk1 | (dsimp only; walk1) | (leave1; walk_say "STEP leave1"; try dsimp only) | fail "no step")))
    · (rename Fr _ _ _ _ => F9); (rename News _ _ _ _ => N9); (rename @LT.lt Nat _ _ _ ∧ _ => l9)
      have hor : ∀ o : Obj, ∀ p ∈ (L' + 1, o) :: own, p.1 ≠ D := fun o => List.forall_mem_cons.mpr ⟨Nat.ne_of_lt hLD, hnD⟩
      with_unfolding_all refine extend_at ((L' + 1, _) :: own) F9 N9 (.tail _ (.head _)) (.head _) (fun p hp => .tail _ (.tail _ hp)) (hor _) (Nat.ne_of_gt l9.1) (by rw [sizeLine_eq]; simp; omega) ?_
      clear F9 N9
      intro h8 n8 F8 N8
      (with_reducible show wpAny _ _ _ _ _ _); (try k_fold)
      (repeat' ((((fail_if_success (with_reducible show wpAny _ _ (isTrue (Expr.BoolOp _ _ _) _ _) _ _ _)); (((fail_if_success (with_reducible show wpAny _ _ (call (Value.ref _) _) _ _ _)); (fail_if_success (with_reducible show wpAny _ _ (exec (Stmt.While _ _ _ _) _) _ _ _)))))); (first | (k_unfold; (try dsimp only)) | (k_end; wrow_close) | walk1 | (dsimp only; walk1) | (leave1; walk_say "STEP leave1"; try dsimp only) | fail "no step")))
      (rename Fr _ _ _ _ => F9); (rename News _ _ _ _ => N9)
      have hs1 : octS (key.take (i + 1)) = octS (key.take i) ++ oct x := by rw [List.take_add_one, hx]; exact octS_snoc _ _
      with_unfolding_all exact StJ.end [((Str.ofString "found"), .ref D)] [(D, listOf (List.toArray (us ++ _)) n8), (L' + 1, _)] F9 N9 (List.forall_mem_cons.mpr ⟨.head _, List.forall_mem_cons.mpr ⟨.tail _ (.head _), List.forall_mem_nil _⟩⟩) (fun p hp => .tail _ (.tail _ hp)) (fun p hp => List.forall_mem_cons.mpr ⟨hnD p hp, List.forall_mem_cons.mpr ⟨hnL p hp, List.forall_mem_nil _⟩⟩) ⟨D, _, _, _, _, rfl, rfl, by assumption, hLD, by rw [hs1]; refine hIu.append ?_; unfold oct; rw [if_pos (by assumption), ← oct_hi, ← bitAnd_m8]; exact .cons _ _ (.cons _ _ .nil)⟩ (by kst_all) (by (first | (intro z h2 h3; (try dsimp only at h2); (repeat (first | exact skc h3 | (with_reducible exact rfl) | (refine sk (ne_in h3 (by with_reducible first | exact nm_head | exact nm_tail nm_head | exact nm_tail (nm_tail nm_head) | exact nm_tail (nm_tail (nm_tail nm_head)) | exact nm_tail (nm_tail (nm_tail (nm_tail nm_head))) | exact nm_tail (nm_tail (nm_tail (nm_tail (nm_tail nm_head)))) | exact nm_tail (nm_tail (nm_tail (nm_tail (nm_tail (nm_tail nm_head))))) | exact nm_tail (nm_tail (nm_tail (nm_tail (nm_tail (nm_tail (nm_tail nm_head)))))) | exact nm_tail (nm_tail (nm_tail (nm_tail (nm_tail (nm_tail (nm_tail (nm_tail nm_head))))))))) ?_) | (refine sk (ne_h h2) ?_) | (refine sk (ne_h (ne_t h2)) ?_) | (refine sk (ne_h (ne_t (ne_t h2))) ?_) | fail "no name")); done) | (walk_say "OLDSAME"; (((try dsimp +zetaDelta only); intro z h2 h3; (try simp only [List.forall_mem_cons, List.not_mem_nil, false_implies, implies_true, and_true, ne_eq] at h2); (have h4 := h3); (simp only [List.contains_cons, List.contains_nil, Bool.or_false, Bool.or_eq_false_iff, beq_eq_false_iff_ne, ne_eq] at h3); ((simp only [kstB, h2, h3, h4, if_false, Bool.false_eq_true]) <;> rfl))))))
    · (rename Fr _ _ _ _ => lF); (rename News _ _ _ _ => lN)
      refine comp_tup (fun i => ((oct5 x).take i).map .int) rfl lF lN (.head _) (by rw [sizeLine_eq]; simp) rfl ?_ ?_
      · intro i v ys tl I' oI C oC D₂ m₂ h tk E' hv hR hC hx F₁ N₁ off ne
        ((try with_reducible show wpAny _ _ _ _ _ _); (try k_fold))
        clear lF lN
        have hi : i = 0 ∨ i = 1 ∨ i = 2 ∨ i = 3 ∨ i = 4 := by
          have := (List.getElem?_eq_some_iff.mp hv).1
          simp at this; omega
        rcases hi with rfl | rfl | rfl | rfl | rfl
        · cases hv
          (try k_fold)
          k_steps
          (rename Fr _ _ _ _ => F9); (rename News _ _ _ _ => N9)
          refine LCg.CompEnd.intro F9 N9 _ (fun _ h => h) off (List.mem_append.mpr (.inr (.head _))) ⟨tl, rfl, ?_⟩
          rw [map_take_succ PyData.int (oct5 x) 0 (x / 2 ^ 32 % 256) rfl]; exact hR.append (.cons (by rw [oct_32]; exact Rf.int) .nil)
        · cases hv
          (try k_fold)
          k_steps
          (rename Fr _ _ _ _ => F9); (rename News _ _ _ _ => N9)
          refine LCg.CompEnd.intro F9 N9 _ (fun _ h => h) off (List.mem_append.mpr (.inr (.head _))) ⟨tl, rfl, ?_⟩
          rw [map_take_succ PyData.int (oct5 x) 1 (x / 2 ^ 24 % 256) rfl]; exact hR.append (.cons (by rw [oct_24]; exact Rf.int) .nil)
        · cases hv
          (try k_fold)
          k_steps
          (rename Fr _ _ _ _ => F9); (rename News _ _ _ _ => N9)
          refine LCg.CompEnd.intro F9 N9 _ (fun _ h => h) off (List.mem_append.mpr (.inr (.head _))) ⟨tl, rfl, ?_⟩
          rw [map_take_succ PyData.int (oct5 x) 2 (x / 2 ^ 16 % 256) rfl]; exact hR.append (.cons (by rw [oct_16]; exact Rf.int) .nil)
        · cases hv
          (try k_fold)
          k_steps
          (rename Fr _ _ _ _ => F9); (rename News _ _ _ _ => N9)
          refine LCg.CompEnd.intro F9 N9 _ (fun _ h => h) off (List.mem_append.mpr (.inr (.head _))) ⟨tl, rfl, ?_⟩
          rw [map_take_succ PyData.int (oct5 x) 3 (x / 2 ^ 8 % 256) rfl]; exact hR.append (.cons (by rw [oct_8]; exact Rf.int) .nil)
        · cases hv
          (try k_fold)
          k_steps
          (rename Fr _ _ _ _ => F9); (rename News _ _ _ _ => N9)
          refine LCg.CompEnd.intro F9 N9 _ (fun _ h => h) off (List.mem_append.mpr (.inr (.head _))) ⟨tl, rfl, ?_⟩
          rw [map_take_succ PyData.int (oct5 x) 4 (x % 256) rfl]; exact hR.append (.cons (by rw [oct_0]; exact Rf.int) .nil)
      · intro g9 tl ys hR
        intro D₂ h9 tk9 F9 N9 o9
        clear lF lN
        have hI5 : IntsAre ys (oct5 x) := rfAll_ints N9 (fun p hp => .tail _ (List.mem_append.mpr (.inl hp))) hR
        have hyl : ys.length = 5 := by rw [hI5.length]; rfl
        (repeat' ((fail_if_success (with_reducible show wpAny _ _ (call (Value.builtin "list.extend") _) _ _ _)); (fail_if_success (with_reducible show wpAny _ _ (isTrue (Expr.BoolOp _ _ _) _ _) _ _ _)); (fail_if_success (with_reducible show wpAny _ _ (call (Value.ref _) _) _ _ _)); (first | (k_unfold; (try dsimp only)) | (k_end; wrow_close) | walk1 | (dsimp only; walk1) | (leave1; walk_say "STEP leave1"; try dsimp only) | fail "no step")))
        (rename Fr _ _ _ _ => F9); (rename News _ _ _ _ => N9); (rename IntsAre _ _ => hI9)
        (rename @LT.lt Nat _ _ _ ∧ _ => l9)
        have l8 := ktn_ltOf l9.2
        have hDD : @LT.lt Nat _ D _ := l8 (D, _) (List.mem_append.mpr (.inr (.tail _ (.tail _ (.head _)))))
        have hws : _ = _ := hI9.length
        have hor : ∀ o : Obj, ∀ p ∈ (L' + 1, o) :: own, p.1 ≠ D := fun o => List.forall_mem_cons.mpr ⟨Nat.ne_of_lt hLD, hnD⟩
        with_unfolding_all refine extend_at ((L' + 1, _) :: own) F9 N9 (.tail _ (.tail _ (List.mem_append.mpr (.inr (.tail _ (.tail _ (.head _))))))) (.head _) (fun p hp => .tail _ (.tail _ (List.mem_append.mpr (.inr (.tail _ (.tail _ (.tail _ hp))))))) (hor _) (Nat.ne_of_gt hDD) (by rw [sizeLine_eq]; simp [oct5] at hws; omega) ?_
        clear o9 hR
        clear F9 N9
        intro h8 n8 F8 N8
        (with_reducible show wpAny _ _ _ _ _ _); (try k_fold)
        (repeat' ((((fail_if_success (with_reducible show wpAny _ _ (isTrue (Expr.BoolOp _ _ _) _ _) _ _ _)); (((fail_if_success (with_reducible show wpAny _ _ (call (Value.ref _) _) _ _ _)); (fail_if_success (with_reducible show wpAny _ _ (exec (Stmt.While _ _ _ _) _) _ _ _)))))); (first | (k_unfold; (try dsimp only)) | (k_end; wrow_close) | walk1 | (dsimp only; walk1) | (leave1; walk_say "STEP leave1"; try dsimp only) | fail "no step")))
        (rename Fr _ _ _ _ => F9); (rename News _ _ _ _ => N9)
        have hs1 : octS (key.take (i + 1)) = octS (key.take i) ++ oct x := by rw [List.take_add_one, hx]; exact octS_snoc _ _
        with_unfolding_all exact StJ.end [((Str.ofString "found"), .ref D)] [(D, listOf (List.toArray (us ++ _)) n8), (L' + 1, _)] F9 N9 (List.forall_mem_cons.mpr ⟨.head _, List.forall_mem_cons.mpr ⟨.tail _ (.head _), List.forall_mem_nil _⟩⟩) (fun p hp => .tail _ (.tail _ hp)) (fun p hp => List.forall_mem_cons.mpr ⟨hnD p hp, List.forall_mem_cons.mpr ⟨hnL p hp, List.forall_mem_nil _⟩⟩) ⟨D, _, _, _, _, rfl, rfl, by assumption, hLD, by rw [hs1]; refine hIu.append ?_; unfold oct; rw [if_neg (by assumption)]; exact hI9⟩ (by kst_all) (by (first | (intro z h2 h3; (try dsimp only at h2); (repeat (first | exact skc h3 | (with_reducible exact rfl) | (refine sk (ne_in h3 (by with_reducible first | exact nm_head | exact nm_tail nm_head | exact nm_tail (nm_tail nm_head) | exact nm_tail (nm_tail (nm_tail nm_head)) | exact nm_tail (nm_tail (nm_tail (nm_tail nm_head))) | exact nm_tail (nm_tail (nm_tail (nm_tail (nm_tail nm_head)))) | exact nm_tail (nm_tail (nm_tail (nm_tail (nm_tail (nm_tail nm_head))))) | exact nm_tail (nm_tail (nm_tail (nm_tail (nm_tail (nm_tail (nm_tail nm_head)))))) | exact nm_tail (nm_tail (nm_tail (nm_tail (nm_tail (nm_tail (nm_tail (nm_tail nm_head))))))))) ?_) | (refine sk (ne_h h2) ?_) | (refine sk (ne_h (ne_t h2)) ?_) | (refine sk (ne_h (ne_t (ne_t h2))) ?_) | fail "no name")); done) | (walk_say "OLDSAME"; (((try dsimp +zetaDelta only); intro z h2 h3; (try simp only [List.forall_mem_cons, List.not_mem_nil, false_implies, implies_true, and_true, ne_eq] at h2); (have h4 := h3); (simp only [List.contains_cons, List.contains_nil, Bool.or_false, Bool.or_eq_false_iff, beq_eq_false_iff_ne, ne_eq] at h3); ((simp only [kstB, h2, h3, h4, if_false, Bool.false_eq_true]) <;> rfl))))))
  · clear lF lN lL
    intro ps u nx h tk hp9a _ F₁ N₁
    ((try with_reducible show wpAny _ _ _ _ _ _); (try k_fold))
    obtain ⟨D, us, n, oc, v0, rfl, rfl, hoc, hLD, hIu⟩ := hp9a
    change Fr g L' h _ at F₁; change News g L' h _ at N₁
    rw [hlen, List.take_length] at hIu
    have hin : KBa.In (octS key) := octS_in key hr
    have hln : (octS key).length ≤ 16777216 := by have := octS_len key; omega
    simp only [List.cons_append, List.nil_append] at N₁
    (with_reducible show wpAny _ _ _ _ _ _); (try k_fold)
    k_steps
    (rename Fr _ _ _ _ => F9); (rename News _ _ _ _ => N9)
    with_unfolding_all exact RetB.fin F9 N9 [] (List.forall_mem_nil _) ⟨_, rfl⟩
end

section
theorem top_off_C21 : True := by
  w_top off
  exact trivial
def cmpLv : List (List Int) → List (List Int) → Int
  | x :: xs, y :: ys => if cmpS x y = 0 then cmpLv xs ys else cmpS x y
  | _, _ => 0
theorem cmpLv_none1 {L M : List (List Int)} {k : Nat} (h : L[k]? = none) : cmpLv (L.drop k) (M.drop k) = 0 := by
  rw [List.drop_eq_nil_of_le (by simpa using h)]; rfl
theorem cmpLv_none2 {L M : List (List Int)} {k : Nat} (h : M[k]? = none) : cmpLv (L.drop k) (M.drop k) = 0 := by
  rw [List.drop_eq_nil_of_le (as := M) (by simpa using h)]; cases L.drop k <;> rfl
theorem cmpLv_some {L M : List (List Int)} {k : Nat} {x y : List Int} (h1 : L[k]? = some x) (h2 : M[k]? = some y) : cmpLv (L.drop k) (M.drop k) = if cmpS x y = 0 then cmpLv (L.drop (k + 1)) (M.drop (k + 1)) else cmpS x y := by
  have e : ∀ {K : List (List Int)} {z : List Int}, K[k]? = some z → K.drop k = z :: K.drop (k + 1) := fun {K z} h => by
    obtain ⟨hk, e⟩ := List.getElem?_eq_some_iff.mp h
    rw [← e, List.drop_eq_getElem_cons hk]
  rw [e h1, e h2]; rfl
def CwJ (L M : List (List Int)) (m₀ : Str → Option Value) (n : Nat) (m : Str → Option Value) (nx : List (Addr × Obj)) : Prop :=
  ∃ (k : Nat) (told : Int) (t t' : Tok), MapIs [((Str.ofString "number"), .int k t), ((Str.ofString "told"), .int told t')] [(Str.ofString "near"), (Str.ofString "far")] m₀ m ∧ nx = [] ∧ k + n = 10 ∧ k ≤ 6 ∧ ((told = 0 ∧ cmpLv L M = cmpLv (L.drop k) (M.drop k)) ∨ (told ≠ 0 ∧ cmpLv L M = told))
set_option maxHeartbeats 16000000 in
theorem con_cmpw (how : How) (str : Int) (bw : Bool) (ws zs : List Row) (hws : ws.length ≤ 100) (hzs : zs.length ≤ 100) (hs : 1 ≤ str ∧ str ≤ 4) : Con 131 3 (fun h vs => ∃ v u o, vs = [v, u, o] ∧ Rd h v (.list (ws.map rP)) ∧ Rd h u (.list (zs.map rP)) ∧ OptAt h o how str bw) (fun tl r => ∃ t, r = .int (cmpLv (levelsS how str bw ws) (levelsS how str bw zs)) t) := by
  unfold Con; k_fill
  intro w mean mg mb dp un gd cn cs a ccd cl outer A₀ base h₀ L m news s vs Q E B F X N T hk hP hd hu hret
  obtain ⟨v0, u0, o0, rfl, hP⟩ := hP
  refine wpAny_call ?_
  k_dflt (refine' code_defB (binds := [((Str.ofString "one"), v0), ((Str.ofString "other"), u0), ((Str.ofString "options"), o0)]) ?k1 ?k2 ?k3 ?k5 ?kA ?kF ?kK ?k6 ?k7 ?k8 ?k9 ?kB ?_ ?c2 ?c3 ?c4 ?c5; (case kA => exact rfl); (case kF => exact rfl); (case kK => assumption); (case k1 => k_asm); (case k2 => k_asm); (case k3 => k_asm); (case k5 => k_asm); (case k6 => k_is); (case k7 => k_is); (case k8 => first | exact room_0 hd | (dsimp only [ktrTop]; omega)); (case k9 => first | exact BindsTo.of_eq rfl | exact binds_K (by k_in) rfl (by k_is) rfl rfl rfl); (case c5 => decide); (case kB => exact locs rfl); (case c2 => exact rfl); (case c3 => exact rfl); (case c4 => exact rfl); k_whole)
  intro g L' h₁ eg F' N' B' X' T'
  refine wpAny_mono (E := fun _ _ => False) (Q := fun fl s' => RetB g L' s (fun tl r => ∃ t, r = .int (cmpLv (levelsS how str bw ws) (levelsS how str bw zs)) t) (match fl with | .ret v => v | _ => .none) s') ?_ (fun fl s' h => RetB.back eg F N hret h) (fun _ _ h => False.elim h)
  clear hret F N X T B
  dsimp only [List.reverse_cons, List.reverse_nil, List.nil_append, List.cons_append, List.reverse, List.reverseAux] at F'
  (try rw [← eg] at hP); clear eg
  obtain ⟨hP, hP2, hO⟩ := hP
  have hlv := (lev_len how str bw ws hws)
  have hlz := (lev_len how str bw zs hzs)
  generalize hL : levelsS how str bw ws = L at *
  generalize hM : levelsS how str bw zs = M at *
  obtain ⟨l, hv0⟩ : ∃ l, v0 = .ref l := by obtain ⟨a, l, e, _⟩ := rd_list hP; exact ⟨a, e⟩
  subst hv0
  obtain ⟨l2, hu0⟩ : ∃ l, u0 = .ref l := by obtain ⟨a, l, e, _⟩ := rd_list hP2; exact ⟨a, e⟩
  subst hu0
  obtain ⟨lo, hv0⟩ : ∃ l, o0 = .ref l := by obtain ⟨a, _, _, _, _, _, _, _, _, _, _, e, _⟩ := hO; exact ⟨a, e⟩
  subst hv0
  (with_reducible show wpAny _ _ _ _ _ _); (try k_fold)
  (repeat' ((((fail_if_success (with_reducible show wpAny _ _ (isTrue (Expr.BoolOp _ _ _) _ _) _ _ _)); (((fail_if_success (with_reducible show wpAny _ _ (call (Value.ref _) _) _ _ _)); (fail_if_success (with_reducible show wpAny _ _ (exec (Stmt.While _ _ _ _) _) _ _ _)))))); (first | (k_unfold; (try dsimp only)) | (k_end; wrow_close) | walk1 | (dsimp only; walk1) | (leave1; walk_say "STEP leave1"; try dsimp only) | fail "no step")))
  (rename Fr _ _ _ _ => lF)
  with_unfolding_all refine while_inv (nx₀ := []) (CwJ L M _) 10 lF (fun _ hp => nomatch hp) ⟨0, 0, _, _, ⟨by kst_all, fun _ _ _ => rfl⟩, rfl, by omega, by omega, .inl ⟨rfl, rfl⟩⟩ ?_
  intro n m nx h tk hp9a F₁ N₁
  ((try with_reducible show wpAny _ _ _ _ _ _); (try k_fold))
  obtain ⟨k, told, t, t', hm, rfl, hkn, hk6, hc⟩ := hp9a
  rw [hm.form] at F₁
  clear lF
  (try k_fold)
  (repeat' ((((fail_if_success (with_reducible show wpAny _ _ (isTrue (Expr.BoolOp _ _ _) _ _) _ _ _)); (((fail_if_success (with_reducible show wpAny _ _ (call (Value.ref _) _) _ _ _)); (fail_if_success (with_reducible show wpAny _ _ (exec (Stmt.While _ _ _ _) _) _ _ _)))))); (first | (k_unfold; (try dsimp only)) | (k_end; wrow_close) | walk1 | (dsimp only; walk1) | (leave1; walk_say "STEP leave1"; try dsimp only) | fail "no step")))
  · have ht0 : told = 0 := by assumption
    obtain ⟨_, hc⟩ : told = 0 ∧ cmpLv L M = cmpLv (L.drop k) (M.drop k) := by
      rcases hc with h | h
      · exact h
      · exact absurd ht0 h.1
    with_unfolding_all refine' Con.use (con_level how str bw ws hws hs (k : Int) (by omega)) ?k1 ?k2 ?k3 ?k4 ?k5 ?kK ?kP ?kd ?ku ?_
    (((((case k1 => k_asm); (case k2 => k_asm); (case k3 => k_asm); (case k4 => k_asm); (case k5 => k_asm); (case kK => first | exact rfl | assumption))); (case kd => first | exact room_d hd (by decide) | (dsimp only [ktrTop]; simp only [recursionLimit] at *; omega)); (case ku => first | exact room_u hu (by decide) | (dsimp only [ktrTop]; simp only [cLine] at *; omega))))
    case kP => exact ⟨_, _, _, rfl, hP.keeps (Fr.keep (by k_asm)), hO.keeps (Fr.keep (by k_asm))⟩
    intro r1 tl1 h9 tk9 F1 N1 of1 P1
    rw [hL, Int.toNat_natCast] at P1
    simp only [List.nil_append] at N1
    (repeat' ((((fail_if_success (with_reducible show wpAny _ _ (isTrue (Expr.BoolOp _ _ _) _ _) _ _ _)); (((fail_if_success (with_reducible show wpAny _ _ (call (Value.ref _) _) _ _ _)); (fail_if_success (with_reducible show wpAny _ _ (exec (Stmt.While _ _ _ _) _) _ _ _)))))); (first | (k_unfold; (try dsimp only)) | (k_end; wrow_close) | walk1 | (dsimp only; walk1) | (leave1; walk_say "STEP leave1"; try dsimp only) | fail "no step")))
    with_unfolding_all refine' Con.use (con_level how str bw zs hzs hs (k : Int) (by omega)) ?k1 ?k2 ?k3 ?k4 ?k5 ?kK ?kP ?kd ?ku ?_
    (((((case k1 => k_asm); (case k2 => k_asm); (case k3 => k_asm); (case k4 => k_asm); (case k5 => k_asm); (case kK => first | exact rfl | assumption))); (case kd => first | exact room_d hd (by decide) | (dsimp only [ktrTop]; simp only [recursionLimit] at *; omega)); (case ku => first | exact room_u hu (by decide) | (dsimp only [ktrTop]; simp only [cLine] at *; omega))))
    case kP => exact ⟨_, _, _, rfl, hP2.keeps (Fr.keep (by k_asm)), hO.keeps (Fr.keep (by k_asm))⟩
    intro r2 tl2 h8 tk8 F2 N2 of2 P2
    rw [hM, Int.toNat_natCast] at P2
    cases hx : L[k]? with
    | none =>
      rw [hx] at P1
      obtain rfl : r1 = .none := P1
      (repeat' ((((fail_if_success (with_reducible show wpAny _ _ (isTrue (Expr.BoolOp _ _ _) _ _) _ _ _)); (((fail_if_success (with_reducible show wpAny _ _ (call (Value.ref _) _) _ _ _)); (fail_if_success (with_reducible show wpAny _ _ (exec (Stmt.While _ _ _ _) _) _ _ _)))))); (first | (k_unfold; (try dsimp only)) | (k_end; wrow_close) | walk1 | (dsimp only; walk1) | (leave1; walk_say "STEP leave1"; try dsimp only) | fail "no step")))
      refine cut_test True ?_ ?_ ?_
      · k_steps
        all_goals ((((repeat (rename Fr _ _ _ _ => x9; clear x9)); (repeat (rename News _ _ _ _ => x9; clear x9)); (repeat (rename RfAll _ _ _ => x9; clear x9)); (repeat (rename IsTup _ _ _ => x9; clear x9)); (repeat (rename Below _ _ _ _ => x9; clear x9)); (repeat (rename Top _ _ _ _ _ _ => x9; clear x9)); (repeat (rename Frag.In _ _ => x9; clear x9)))); simp_all; done)
      · intro tk9 _
        simp only [if_true]
        (repeat' ((((fail_if_success (with_reducible show wpAny _ _ (isTrue (Expr.BoolOp _ _ _) _ _) _ _ _)); (((fail_if_success (with_reducible show wpAny _ _ (call (Value.ref _) _) _ _ _)); (fail_if_success (with_reducible show wpAny _ _ (exec (Stmt.While _ _ _ _) _) _ _ _)))))); (first | (k_unfold; (try dsimp only)) | (k_end; wrow_close) | walk1 | (dsimp only; walk1) | (leave1; walk_say "STEP leave1"; try dsimp only) | fail "no step")))
        (rename Fr _ _ _ _ => F9); (rename News _ _ _ _ => N9)
        dsimp only [WhPost]
        with_unfolding_all refine RetB.fin F9 N9 [] (List.forall_mem_nil _) (ktn_int ?_)
        exact (by rw [hc, cmpLv_none1 hx])
      · intro tk9 hC
        exact absurd trivial hC
    | some x =>
      rw [hx] at P1
      obtain ⟨a1, va1, rfl, hla1, hIa1⟩ := rd_ints (Rf.at (d := lP x) P1 N2 (fun p hp => List.mem_append.mpr (.inl hp)))
      clear hla1 hIa1
      cases hy : M[k]? with
      | none =>
        rw [hy] at P2
        obtain rfl : r2 = .none := P2
        (repeat' ((((fail_if_success (with_reducible show wpAny _ _ (isTrue (Expr.BoolOp _ _ _) _ _) _ _ _)); (((fail_if_success (with_reducible show wpAny _ _ (call (Value.ref _) _) _ _ _)); (fail_if_success (with_reducible show wpAny _ _ (exec (Stmt.While _ _ _ _) _) _ _ _)))))); (first | (k_unfold; (try dsimp only)) | (k_end; wrow_close) | walk1 | (dsimp only; walk1) | (leave1; walk_say "STEP leave1"; try dsimp only) | fail "no step")))
        refine cut_test True ?_ ?_ ?_
        · k_steps
          all_goals ((((repeat (rename Fr _ _ _ _ => x9; clear x9)); (repeat (rename News _ _ _ _ => x9; clear x9)); (repeat (rename RfAll _ _ _ => x9; clear x9)); (repeat (rename IsTup _ _ _ => x9; clear x9)); (repeat (rename Below _ _ _ _ => x9; clear x9)); (repeat (rename Top _ _ _ _ _ _ => x9; clear x9)); (repeat (rename Frag.In _ _ => x9; clear x9)))); simp_all; done)
        · intro tk9 _
          simp only [if_true]
          (repeat' ((((fail_if_success (with_reducible show wpAny _ _ (isTrue (Expr.BoolOp _ _ _) _ _) _ _ _)); (((fail_if_success (with_reducible show wpAny _ _ (call (Value.ref _) _) _ _ _)); (fail_if_success (with_reducible show wpAny _ _ (exec (Stmt.While _ _ _ _) _) _ _ _)))))); (first | (k_unfold; (try dsimp only)) | (k_end; wrow_close) | walk1 | (dsimp only; walk1) | (leave1; walk_say "STEP leave1"; try dsimp only) | fail "no step")))
          (rename Fr _ _ _ _ => F9); (rename News _ _ _ _ => N9)
          dsimp only [WhPost]
          with_unfolding_all refine RetB.fin F9 N9 [] (List.forall_mem_nil _) (ktn_int ?_)
          exact (by rw [hc, cmpLv_none2 hy])
        · intro tk9 hC
          exact absurd trivial hC
      | some y =>
        rw [hy] at P2
        obtain ⟨a2, va2, rfl, hla2, hIa2⟩ := rd_ints (Rf.at (d := lP y) P2 N2 (fun p hp => List.mem_append.mpr (.inr hp)))
        clear hla2 hIa2
        (repeat' ((((fail_if_success (with_reducible show wpAny _ _ (isTrue (Expr.BoolOp _ _ _) _ _) _ _ _)); (((fail_if_success (with_reducible show wpAny _ _ (call (Value.ref _) _) _ _ _)); (fail_if_success (with_reducible show wpAny _ _ (exec (Stmt.While _ _ _ _) _) _ _ _)))))); (first | (k_unfold; (try dsimp only)) | (k_end; wrow_close) | walk1 | (dsimp only; walk1) | (leave1; walk_say "STEP leave1"; try dsimp only) | fail "no step")))
        refine cut_test False ?_ ?_ ?_
        · k_steps
          all_goals ((((repeat (rename Fr _ _ _ _ => x9; clear x9)); (repeat (rename News _ _ _ _ => x9; clear x9)); (repeat (rename RfAll _ _ _ => x9; clear x9)); (repeat (rename IsTup _ _ _ => x9; clear x9)); (repeat (rename Below _ _ _ _ => x9; clear x9)); (repeat (rename Top _ _ _ _ _ _ => x9; clear x9)); (repeat (rename Frag.In _ _ => x9; clear x9)))); simp_all; done)
        · intro tk9 hC
          exact absurd hC id
        · intro tk9 _
          simp only [Bool.false_eq_true, if_false]
          (repeat' ((((fail_if_success (with_reducible show wpAny _ _ (isTrue (Expr.BoolOp _ _ _) _ _) _ _ _)); (((fail_if_success (with_reducible show wpAny _ _ (call (Value.ref _) _) _ _ _)); (fail_if_success (with_reducible show wpAny _ _ (exec (Stmt.While _ _ _ _) _) _ _ _)))))); (first | (k_unfold; (try dsimp only)) | (k_end; wrow_close) | walk1 | (dsimp only; walk1) | (leave1; walk_say "STEP leave1"; try dsimp only) | fail "no step")))
          (rename News _ _ _ _ => N7)
          have hxl := hlv.1 x (List.mem_of_getElem? hx)
          have hyl := hlz.1 y (List.mem_of_getElem? hy)
          with_unfolding_all refine' Con.use (con_cmpl x y (by omega) (by omega)) ?k1 ?k2 ?k3 ?k4 ?k5 ?kK ?kP ?kd ?ku ?_
          (((((case k1 => k_asm); (case k2 => k_asm); (case k3 => k_asm); (case k4 => k_asm); (case k5 => k_asm); (case kK => first | exact rfl | assumption))); (case kd => first | exact room_d hd (by decide) | (dsimp only [ktrTop]; simp only [recursionLimit] at *; omega)); (case ku => first | exact room_u hu (by decide) | (dsimp only [ktrTop]; simp only [cLine] at *; omega))))
          case kP => exact ⟨_, _, rfl, Rf.at (d := lP x) P1 N7 (fun p hp => .tail _ (List.mem_append.mpr (.inl hp))), Rf.at (d := lP y) P2 N7 (fun p hp => .tail _ (List.mem_append.mpr (.inr hp)))⟩
          intro r3 tl3 h7 tk7 F3 N3 of3 P3
          obtain ⟨t3, rfl⟩ := P3
          (repeat (first | clear N7 | clear N1 | clear F2 | clear F1 | clear P1 | clear P2))
          have hkl : k < L.length := (List.getElem?_eq_some_iff.mp hx).1
          have hkl4 := hlv.2
          (repeat' ((((fail_if_success (with_reducible show wpAny _ _ (isTrue (Expr.BoolOp _ _ _) _ _) _ _ _)); (((fail_if_success (with_reducible show wpAny _ _ (call (Value.ref _) _) _ _ _)); (fail_if_success (with_reducible show wpAny _ _ (exec (Stmt.While _ _ _ _) _) _ _ _)))))); (first | (k_unfold; (try dsimp only)) | (k_end; wrow_close) | walk1 | (dsimp only; walk1) | (leave1; walk_say "STEP leave1"; try dsimp only) | fail "no step")))
          (rename Fr _ _ _ _ => F9); (rename News _ _ _ _ => N9)
          rw [cmpLv_some hx hy] at hc
          with_unfolding_all refine ⟨n - 1, _, _, _, [], by omega, rfl, F9, (fun _ hp => nomatch hp), k + 1, cmpS x y, _, _, ⟨by kst_all, by (first | (intro z h2 h3; (try dsimp only at h2); (repeat (first | exact skc h3 | (with_reducible exact rfl) | (refine sk (ne_in h3 (by with_reducible first | exact nm_head | exact nm_tail nm_head | exact nm_tail (nm_tail nm_head) | exact nm_tail (nm_tail (nm_tail nm_head)) | exact nm_tail (nm_tail (nm_tail (nm_tail nm_head))) | exact nm_tail (nm_tail (nm_tail (nm_tail (nm_tail nm_head)))) | exact nm_tail (nm_tail (nm_tail (nm_tail (nm_tail (nm_tail nm_head))))) | exact nm_tail (nm_tail (nm_tail (nm_tail (nm_tail (nm_tail (nm_tail nm_head)))))) | exact nm_tail (nm_tail (nm_tail (nm_tail (nm_tail (nm_tail (nm_tail (nm_tail nm_head))))))))) ?_) | (refine sk (ne_h h2) ?_) | (refine sk (ne_h (ne_t h2)) ?_) | (refine sk (ne_h (ne_t (ne_t h2))) ?_) | fail "no name")); done) | (walk_say "OLDSAME"; (((try dsimp +zetaDelta only); intro z h2 h3; (try simp only [List.forall_mem_cons, List.not_mem_nil, false_implies, implies_true, and_true, ne_eq] at h2); (have h4 := h3); (simp only [List.contains_cons, List.contains_nil, Bool.or_false, Bool.or_eq_false_iff, beq_eq_false_iff_ne, ne_eq] at h3); ((simp only [kstB, h2, h3, h4, if_false, Bool.false_eq_true]) <;> rfl)))))⟩, rfl, by omega, by omega, ?_⟩
          by_cases hz : cmpS x y = 0
          · rw [if_pos hz] at hc; exact .inl ⟨hz, hc⟩
          · rw [if_neg hz] at hc; exact .inr ⟨hz, hc⟩
  · (rename Fr _ _ _ _ => F9); (rename News _ _ _ _ => N9)
    with_unfolding_all refine RetB.fin F9 N9 [] (List.forall_mem_nil _) (ktn_int ?_)
    exact (by rcases hc with h | h; exact absurd h.1 (by assumption); exact h.2.symm)
end

section
theorem top_off_C16 : True := by
  w_top off
  exact trivial
def levK (how : How) (bw : Bool) (ws : List Row) (i : Nat) : List Int := match i with
  | 0 => lev1 ws
  | 1 => lev2 bw ws
  | 2 => lev3 ws
  | _ => fourthS how ws
theorem levels_eq (how : How) (str : Int) (bw : Bool) (ws : List Row) (hs : 1 ≤ str ∧ str ≤ 4) : levelsS how str bw ws = (List.range str.toNat).map (levK how bw ws) := by
  have hc : str = 1 ∨ str = 2 ∨ str = 3 ∨ str = 4 := by omega
  rcases hc with rfl | rfl | rfl | rfl <;> simp [levelsS, levK, List.range_succ]
theorem lev_snoc (how : How) (bw : Bool) (ws : List Row) (i : Nat) : (List.range (i + 1)).map (levK how bw ws) = (List.range i).map (levK how bw ws) ++ [levK how bw ws i] := by
  rw [List.range_succ, List.map_append]; rfl
def RowPos (e : Row) : Prop := 0 ≤ e.1 ∧ 0 ≤ e.2.1 ∧ 0 ≤ e.2.2.1 ∧ 0 ≤ e.2.2.2
theorem MapIs.start {ps : List (Str × Value)} {stored : List Str} {m : Str → Option Value} (h : ∀ p ∈ ps, m p.1 = some p.2) : MapIs ps stored m m := ⟨h, fun _ _ _ => rfl⟩
@[reducible] def LlJ (how : How) (bw : Bool) (ws : List Row) (L' : Addr) : Nat → List (Str × Value) → List (Addr × Obj) → Prop :=
  fun i ps nx => ∃ D us n oc v0 tl, ps = [((Str.ofString "found"), .ref D)] ∧ nx = (D, listOf (List.toArray us) n) :: (L' + 1, oc) :: tl ∧ oc.data = .cell v0 ∧ @LT.lt Nat _ (L' + 1) D ∧ RLs tl us ((List.range i).map (levK how bw ws)) ∧ (∀ p ∈ tl, p.1 ≠ D) ∧ (∀ p ∈ tl, p.1 ≠ L' + 1)
set_option maxHeartbeats 16000000 in
theorem con_llev (how : How) (str : Int) (bw : Bool) (ws : List Row) (hws : ws.length ≤ 100) (hs : 1 ≤ str ∧ str ≤ 4) (hpos : ∀ e ∈ ws, RowPos e) : Con 155 1 (fun h vs => ∃ v t u, vs = [v, .str how.str t, .int str u, .bool bw] ∧ Rd h v (.list (ws.map rP))) (fun tl r => RLL tl r (levelsS how str bw ws)) := by
  unfold Con; k_fill
  intro w mean mg mb dp un gd cn cs a ccd cl outer A₀ base h₀ L m news s vs Q E B F X N T hk hP hd hu hret
  obtain ⟨v0, t0, u0, rfl, hP⟩ := hP
  refine wpAny_call ?_
  k_dflt (refine' code_defCB (binds := [((Str.ofString "weights"), v0), ((Str.ofString "how"), .str how.str t0), ((Str.ofString "strength"), .int str u0), ((Str.ofString "is_backwards"), .bool bw)]) ?k1 ?k2 ?k3 ?k5 ?kA ?kF ?kK ?k6 ?k7 ?k8 ?k9 ?kB ?kD ?_ ?c2 ?c3 ?c4; (case kA => exact rfl); (case kF => exact rfl); (case kK => assumption); (case k1 => k_asm); (case k2 => k_asm); (case k3 => k_asm); (case k5 => k_asm); (case k6 => k_is); (case k7 => k_is); (case k8 => first | exact room_0 hd | (dsimp only [ktrTop]; omega)); (case k9 => first | exact BindsTo.of_eq rfl | exact binds_K (by k_in) rfl (by k_is) rfl rfl rfl); (case kB => exact rfl); (case kD => decide +kernel); (case c2 => exact rfl); (case c3 => exact rfl); (case c4 => exact rfl); k_whole)
  intro g L' h₁ tkC cells' eg F' N' Y' B' X' T'
  k_cells Y'
  refine wpAny_mono (E := fun _ _ => False) (Q := fun fl s' => RetB g L' s (fun tl r => RLL tl r (levelsS how str bw ws)) (match fl with | .ret v => v | _ => .none) s') ?_ (fun fl s' h => RetB.back eg F N hret h) (fun _ _ h => False.elim h)
  clear hret F N X T B
  (try rw [← eg] at hP); clear eg
  obtain ⟨l, vs, rfl, hl, hlen, hget⟩ := rd_list hP
  clear hP
  (with_reducible show wpAny _ _ _ _ _ _); (try k_fold)
  (repeat' ((((fail_if_success (with_reducible show wpAny _ _ (isTrue (Expr.BoolOp _ _ _) _ _) _ _ _)); (((fail_if_success (with_reducible show wpAny _ _ (call (Value.ref _) _) _ _ _)); (fail_if_success (with_reducible show wpAny _ _ (exec (Stmt.While _ _ _ _) _) _ _ _)))))); (first | (k_unfold; (try dsimp only)) | (k_end; wrow_close) | walk1 | (dsimp only; walk1) | (leave1; walk_say "STEP leave1"; try dsimp only) | fail "no step")))
  (rename Fr _ _ _ _ => lF); (rename IsRange _ _ _ _ _ _ _ _ => lR); (rename @LT.lt Nat _ _ _ => lL)
  have lN := (by assumption : News g L' _ [_, _])
  have hb : (if 4 < str then 4 else str) = str := by rw [if_neg (by omega)]
  rw [hb] at lR
  with_unfolding_all refine for_stR (n := str.toNat) [(_, listOf #[] 0), (L' + 1, _)] (LlJ how bw ws L') [((Str.ofString "found"), .ref _)] [(Str.ofString "level")] rfl lF lN (fun p hp => hp) lR ?_ ?_ ⟨_, [], 0, _, _, [], rfl, rfl, by assumption, lL, .nil, List.forall_mem_nil _, List.forall_mem_nil _⟩ (by kst_all) ?_ ?_
  · exact small_one (by omega) (by omega) (by omega) (by omega)
  · rw [rangeSize_nat]; omega
  · clear lF lN lL lR
    intro i t ps u nx h tk own hi ho hp9a F₁ N₁
    ((try with_reducible show wpAny _ _ _ _ _ _); (try k_fold))
    obtain ⟨D, us, n, oc, v0, tl, rfl, rfl, hoc, hLD, hR, hD, hL⟩ := hp9a
    change Fr g L' h _ at F₁; change News g L' h _ at N₁
    have hs1 := lev_snoc how bw ws i
    have hul : us.length ≤ 4 := by have := hR.length; rw [List.length_map, List.length_range] at this; omega
    have hnD : ∀ p ∈ tl ++ own, p.1 ≠ D := fun p hp => (List.mem_append.mp hp).elim (hD p) fun q => ho p q D (by simp)
    have hnL : ∀ p ∈ tl ++ own, p.1 ≠ L' + 1 := fun p hp => (List.mem_append.mp hp).elim (hL p) fun q => ho p q (L' + 1) (by simp)
    have hof : OwnOff own (tl.map (·.1)) := fun p hp b hb => ho p hp b (by simp only [List.map_cons, List.mem_cons]; exact .inr (.inr hb))
    simp only [List.cons_append] at N₁
    have turnEnd : ∀ (m9 : Str → Option Value) (E : Addr) (ys : List Value) (ke n' : Nat) (o' : Obj) (v' : Option Value) (h' : Heap) (tk' : Nat) (m' : Str → Option Value) (nw : List (Addr × Obj)), Fr g L' h' m' → News g L' h' nw → (E, listOf (List.toArray ys) ke) ∈ nw → (D, listOf (List.toArray (us ++ [Value.ref E])) n') ∈ nw → (L' + 1, o') ∈ nw → o'.data = .cell v' → (∀ p ∈ tl ++ own, p ∈ nw) → @Ne Nat D E → @Ne Nat (L' + 1) E → (∀ p ∈ tl ++ own, p.1 ≠ E) → IntsAre ys (levK how bw ws i) → m' (Str.ofString "found") = some (.ref D) → (∀ z, (∀ p ∈ [(((Str.ofString "found"), Value.ref D) : Str × Value)], z ≠ p.1) → [(Str.ofString "level")].contains z = false → m' z = m9 z) →
        InvEndG g L' (StJ (LlJ how bw ws L') [(Str.ofString "level")] m9 (i + 1)) own { s with heap := h, toks := tk } { s with heap := h', toks := tk' } := by
      intro m9 E ys ke n' o' v' h' tk' m' nw F9 N9 hE hDm hLm hod htn hDE hLE htE hI9 hm1 hm2
      refine StJ.end [((Str.ofString "found"), .ref D)] ((D, listOf (List.toArray (us ++ [Value.ref E])) n') :: (L' + 1, o') :: (E, listOf (List.toArray ys) ke) :: tl) F9 N9 ?_ (fun p hp => htn p (List.mem_append.mpr (.inr hp))) ?_ ⟨D, _, _, _, _, _, rfl, rfl, hod, hLD, ?_, ?_, ?_⟩ (List.forall_mem_cons.mpr ⟨hm1, List.forall_mem_nil _⟩) hm2
      · exact List.forall_mem_cons.mpr ⟨hDm, List.forall_mem_cons.mpr ⟨hLm, List.forall_mem_cons.mpr ⟨hE, fun p hp => htn p (List.mem_append.mpr (.inl hp))⟩⟩⟩
      · intro p hp
        have q := List.mem_append.mpr (.inr hp : p ∈ tl ∨ p ∈ own)
        exact List.forall_mem_cons.mpr ⟨hnD p q, List.forall_mem_cons.mpr ⟨hnL p q, List.forall_mem_cons.mpr ⟨htE p q, hof p hp⟩⟩⟩
      · rw [hs1]
        exact (hR.mono fun p hp => .tail _ hp).append (.cons (RL.mk (.head _) (RfAll.ints hI9)) .nil)
      · exact List.forall_mem_cons.mpr ⟨Ne.symm hDE, hD⟩
      · exact List.forall_mem_cons.mpr ⟨Ne.symm hLE, hL⟩
    clear hs1 hof hR hD hL
    have hi4 : i = 0 ∨ i = 1 ∨ i = 2 ∨ i = 3 := by omega
    rcases hi4 with rfl | rfl | rfl | rfl
    · rw [show (0 + ((0 : Nat) : Int)) = 0 from rfl]
      (with_reducible show wpAny _ _ _ _ _ _); (try k_fold)
      (repeat' ((((fail_if_success (with_reducible show wpAny _ _ (isTrue (Expr.BoolOp _ _ _) _ _) _ _ _)); (((fail_if_success (with_reducible show wpAny _ _ (call (Value.ref _) _) _ _ _)); (fail_if_success (with_reducible show wpAny _ _ (exec (Stmt.While _ _ _ _) _) _ _ _)))))); (first | (k_unfold; (try dsimp only)) | (k_end; wrow_close) | walk1 | (dsimp only; walk1) | (leave1; walk_say "STEP leave1"; try dsimp only) | fail "no step")))
      (rename Fr _ _ _ _ => lF); (rename News _ _ _ _ => lN)
      refine comp_listT (fun j => (nz ((ws.take j).map (·.1))).map .int) rfl lF lN (.inl hl) (by rw [hlen, List.length_map]; first | exact fit100 (by assumption) | exact fit1000 (by assumption) | exact fit500 (by assumption) | (rw [sizeLine_eq]; omega)) rfl ?_ ?_
      · intro j v ys tl I' oI C oC D₂ m₂ h tk E' hv hR hC hx F₁ N₁ off ne
        ((try with_reducible show wpAny _ _ _ _ _ _); (try k_fold))
        obtain ⟨d, hd1, hd2⟩ := hget j v hv
        obtain ⟨e, he, rfl⟩ : ∃ e, ws[j]? = some e ∧ rP e = d := by simpa using hd1
        obtain ⟨ax, q1, q2, q3, q4, rfl, hT⟩ := rd_row hd2
        have hp9 := hpos e (List.mem_of_getElem? he)
        obtain ⟨p, q, r, z⟩ := e
        obtain ⟨hp1, hp2, hp3, hp4⟩ := hp9
        dsimp only at hT hp1 hp2 hp3 hp4
        have hT' := hT.keeps F₁.keep
        have hs1 := map_take_succ (·.1) ws j _ he
        (try dsimp only at hs1)
        clear lF lN hget hT hd1 hd2
        (try k_fold)
        k_steps
        all_goals (
          (rename Fr _ _ _ _ => F9); (rename News _ _ _ _ => N9)
          refine LCg.CompEnd.intro F9 N9 _ (fun _ h => h) off (.inl hl) ⟨tl, rfl, ?_⟩
          (try dsimp only)
          rw [hs1, nz_snoc]
          first | (rw [if_pos (by omega), List.map_append]; exact hR.append (.cons Rf.int .nil)) | (rw [if_neg (by omega), List.append_nil]; exact hR))
      · intro g9 tlz ys hR
        intro D₂ h9 tk9 F9 N9 o9
        clear lF lN
        have e1 : ws.take vs.length = ws := by rw [List.take_of_length_le]; rw [hlen, List.length_map]; exact Nat.le_refl _
        rw [e1] at hR
        have hI : IntsAre ys (nz (ws.map (·.1))) := rfAll_ints N9 (fun p hp => .tail _ (List.mem_append.mpr (.inl hp))) hR
        have hln : ys.length ≤ 100 := by rw [hI.length]; have := nz_len (ws.map (·.1)); rw [List.length_map] at this; omega
        have of2 := off1_mem o9
        have N8 := News.sub (b := (D₂, LCg.lst ys) :: (D, listOf (List.toArray us) n) :: (L' + 1, _) :: (tl ++ own)) N9 (fun p hp => by
          rcases List.mem_cons.mp hp with rfl | hp
          · exact .head _
          · exact .tail _ (List.mem_append.mpr (.inr hp)))
        have of3 : ∀ p ∈ (D, listOf (List.toArray us) n) :: (L' + 1, _) :: (tl ++ own), p.1 ≠ D₂ := fun p hp => of2 p (List.mem_append.mpr (.inr hp))
        have hDD : @Ne Nat D D₂ := of3 _ (.head _)
        have hLDD : @Ne Nat (L' + 1) D₂ := of3 _ (.tail _ (.head _))
        clear N9 o9 hR of2
        (repeat' ((((fail_if_success (with_reducible show wpAny _ _ (isTrue (Expr.BoolOp _ _ _) _ _) _ _ _)); (((fail_if_success (with_reducible show wpAny _ _ (call (Value.ref _) _) _ _ _)); (fail_if_success (with_reducible show wpAny _ _ (exec (Stmt.While _ _ _ _) _) _ _ _)))))); (first | (k_unfold; (try dsimp only)) | (k_end; wrow_close) | walk1 | (dsimp only; walk1) | (leave1; walk_say "STEP leave1"; try dsimp only) | fail "no step")))
        refine cut_test False ?_ ?_ ?_
        · k_steps
          all_goals ((((repeat (rename Fr _ _ _ _ => x9; clear x9)); (repeat (rename News _ _ _ _ => x9; clear x9)); (repeat (rename RfAll _ _ _ => x9; clear x9)); (repeat (rename IsTup _ _ _ => x9; clear x9)); (repeat (rename Below _ _ _ _ => x9; clear x9)); (repeat (rename Top _ _ _ _ _ _ => x9; clear x9)); (repeat (rename Frag.In _ _ => x9; clear x9)))); simp_all; done)
        · intro tk9 hC
          exact absurd hC id
        · intro tk9 _
          simp only [Bool.false_eq_true, if_false]
          (repeat' ((((fail_if_success (with_reducible show wpAny _ _ (isTrue (Expr.BoolOp _ _ _) _ _) _ _ _)); (((fail_if_success (with_reducible show wpAny _ _ (call (Value.ref _) _) _ _ _)); (fail_if_success (with_reducible show wpAny _ _ (exec (Stmt.While _ _ _ _) _) _ _ _)))))); (first | (k_unfold; (try dsimp only)) | (k_end; wrow_close) | walk1 | (dsimp only; walk1) | (leave1; walk_say "STEP leave1"; try dsimp only) | fail "no step")))
          (rename Fr _ _ _ _ => F9); (rename News _ _ _ _ => N9)
          with_unfolding_all refine while_inv (fun _ m nx => m = _ ∧ nx = _) 0 F9 N9 ⟨rfl, rfl⟩ ?_
          intro n9 m9 nx9 h8 tk8 hp9a F8 N8
          ((try with_reducible show wpAny _ _ _ _ _ _); (try k_fold))
          obtain ⟨rfl, rfl⟩ := hp9a
          clear F9 N9
          (try k_fold)
          refine cut_test False ?_ ?_ ?_
          · k_steps
            all_goals ((((repeat (rename Fr _ _ _ _ => x9; clear x9)); (repeat (rename News _ _ _ _ => x9; clear x9)); (repeat (rename RfAll _ _ _ => x9; clear x9)); (repeat (rename IsTup _ _ _ => x9; clear x9)); (repeat (rename Below _ _ _ _ => x9; clear x9)); (repeat (rename Top _ _ _ _ _ _ => x9; clear x9)); (repeat (rename Frag.In _ _ => x9; clear x9)))); simp_all; done)
          · intro tk9 hC
            exact absurd hC id
          · intro tk9 _
            simp only [Bool.false_eq_true, if_false]
            (repeat' ((((fail_if_success (with_reducible show wpAny _ _ (isTrue (Expr.BoolOp _ _ _) _ _) _ _ _)); (((fail_if_success (with_reducible show wpAny _ _ (call (Value.ref _) _) _ _ _)); (fail_if_success (with_reducible show wpAny _ _ (exec (Stmt.While _ _ _ _) _) _ _ _)))))); (first | (k_unfold; (try dsimp only)) | (k_end; wrow_close) | walk1 | (dsimp only; walk1) | (leave1; walk_say "STEP leave1"; try dsimp only) | fail "no step")))
            (rename Fr _ _ _ _ => F9); (rename News _ _ _ _ => N9)
            simp only [List.push_toArray] at N9
            with_unfolding_all exact turnEnd _ D₂ ys _ _ _ _ _ _ _ _ F9 N9 (.head _) (.tail _ (.head _)) (.tail _ (.tail _ (.head _))) (by assumption) (fun p hp => .tail _ (.tail _ (.tail _ hp))) hDD hLDD (fun p hp => of3 p (.tail _ (.tail _ hp))) hI (by with_unfolding_all rfl) (by (first | (intro z h2 h3; (try dsimp only at h2); (repeat (first | exact skc h3 | (with_reducible exact rfl) | (refine sk (ne_in h3 (by with_reducible first | exact nm_head | exact nm_tail nm_head | exact nm_tail (nm_tail nm_head) | exact nm_tail (nm_tail (nm_tail nm_head)) | exact nm_tail (nm_tail (nm_tail (nm_tail nm_head))) | exact nm_tail (nm_tail (nm_tail (nm_tail (nm_tail nm_head)))) | exact nm_tail (nm_tail (nm_tail (nm_tail (nm_tail (nm_tail nm_head))))) | exact nm_tail (nm_tail (nm_tail (nm_tail (nm_tail (nm_tail (nm_tail nm_head)))))) | exact nm_tail (nm_tail (nm_tail (nm_tail (nm_tail (nm_tail (nm_tail (nm_tail nm_head))))))))) ?_) | (refine sk (ne_h h2) ?_) | (refine sk (ne_h (ne_t h2)) ?_) | (refine sk (ne_h (ne_t (ne_t h2))) ?_) | fail "no name")); done) | (walk_say "OLDSAME"; (((try dsimp +zetaDelta only); intro z h2 h3; (try simp only [List.forall_mem_cons, List.not_mem_nil, false_implies, implies_true, and_true, ne_eq] at h2); (have h4 := h3); (simp only [List.contains_cons, List.contains_nil, Bool.or_false, Bool.or_eq_false_iff, beq_eq_false_iff_ne, ne_eq] at h3); ((simp only [kstB, h2, h3, h4, if_false, Bool.false_eq_true]) <;> rfl))))))
    · rw [show (0 + ((1 : Nat) : Int)) = 1 from rfl]
      (with_reducible show wpAny _ _ _ _ _ _); (try k_fold)
      (repeat' ((((fail_if_success (with_reducible show wpAny _ _ (isTrue (Expr.BoolOp _ _ _) _ _) _ _ _)); (((fail_if_success (with_reducible show wpAny _ _ (call (Value.ref _) _) _ _ _)); (fail_if_success (with_reducible show wpAny _ _ (exec (Stmt.While _ _ _ _) _) _ _ _)))))); (first | (k_unfold; (try dsimp only)) | (k_end; wrow_close) | walk1 | (dsimp only; walk1) | (leave1; walk_say "STEP leave1"; try dsimp only) | fail "no step")))
      (rename Fr _ _ _ _ => lF); (rename News _ _ _ _ => lN)
      refine comp_listT (fun j => (nz ((ws.take j).map (·.2.1))).map .int) rfl lF lN (.inl hl) (by rw [hlen, List.length_map]; first | exact fit100 (by assumption) | exact fit1000 (by assumption) | exact fit500 (by assumption) | (rw [sizeLine_eq]; omega)) rfl ?_ ?_
      · intro j v ys tl I' oI C oC D₂ m₂ h tk E' hv hR hC hx F₁ N₁ off ne
        ((try with_reducible show wpAny _ _ _ _ _ _); (try k_fold))
        obtain ⟨d, hd1, hd2⟩ := hget j v hv
        obtain ⟨e, he, rfl⟩ : ∃ e, ws[j]? = some e ∧ rP e = d := by simpa using hd1
        obtain ⟨ax, q1, q2, q3, q4, rfl, hT⟩ := rd_row hd2
        have hp9 := hpos e (List.mem_of_getElem? he)
        obtain ⟨p, q, r, z⟩ := e
        obtain ⟨hp1, hp2, hp3, hp4⟩ := hp9
        dsimp only at hT hp1 hp2 hp3 hp4
        have hT' := hT.keeps F₁.keep
        have hs1 := map_take_succ (·.2.1) ws j _ he
        (try dsimp only at hs1)
        clear lF lN hget hT hd1 hd2
        (try k_fold)
        k_steps
        all_goals (
          (rename Fr _ _ _ _ => F9); (rename News _ _ _ _ => N9)
          refine LCg.CompEnd.intro F9 N9 _ (fun _ h => h) off (.inl hl) ⟨tl, rfl, ?_⟩
          (try dsimp only)
          rw [hs1, nz_snoc]
          first | (rw [if_pos (by omega), List.map_append]; exact hR.append (.cons Rf.int .nil)) | (rw [if_neg (by omega), List.append_nil]; exact hR))
      · intro g9 tlz ys hR
        intro D₂ h9 tk9 F9 N9 o9
        clear lF lN
        have e1 : ws.take vs.length = ws := by rw [List.take_of_length_le]; rw [hlen, List.length_map]; exact Nat.le_refl _
        rw [e1] at hR
        have hI : IntsAre ys (nz (ws.map (·.2.1))) := rfAll_ints N9 (fun p hp => .tail _ (List.mem_append.mpr (.inl hp))) hR
        have hln : ys.length ≤ 100 := by rw [hI.length]; have := nz_len (ws.map (·.2.1)); rw [List.length_map] at this; omega
        have of2 := off1_mem o9
        have N8 := News.sub (b := (D₂, LCg.lst ys) :: (D, listOf (List.toArray us) n) :: (L' + 1, _) :: (tl ++ own)) N9 (fun p hp => by
          rcases List.mem_cons.mp hp with rfl | hp
          · exact .head _
          · exact .tail _ (List.mem_append.mpr (.inr hp)))
        have of3 : ∀ p ∈ (D, listOf (List.toArray us) n) :: (L' + 1, _) :: (tl ++ own), p.1 ≠ D₂ := fun p hp => of2 p (List.mem_append.mpr (.inr hp))
        have hDD : @Ne Nat D D₂ := of3 _ (.head _)
        have hLDD : @Ne Nat (L' + 1) D₂ := of3 _ (.tail _ (.head _))
        clear N9 o9 hR of2
        (repeat' ((((fail_if_success (with_reducible show wpAny _ _ (isTrue (Expr.BoolOp _ _ _) _ _) _ _ _)); (((fail_if_success (with_reducible show wpAny _ _ (call (Value.ref _) _) _ _ _)); (fail_if_success (with_reducible show wpAny _ _ (exec (Stmt.While _ _ _ _) _) _ _ _)))))); (first | (k_unfold; (try dsimp only)) | (k_end; wrow_close) | walk1 | (dsimp only; walk1) | (leave1; walk_say "STEP leave1"; try dsimp only) | fail "no step")))
        cases bw
        · refine cut_test False ?_ ?_ ?_
          · k_steps
            all_goals ((((repeat (rename Fr _ _ _ _ => x9; clear x9)); (repeat (rename News _ _ _ _ => x9; clear x9)); (repeat (rename RfAll _ _ _ => x9; clear x9)); (repeat (rename IsTup _ _ _ => x9; clear x9)); (repeat (rename Below _ _ _ _ => x9; clear x9)); (repeat (rename Top _ _ _ _ _ _ => x9; clear x9)); (repeat (rename Frag.In _ _ => x9; clear x9)))); simp_all; done)
          · intro tk9 hC
            exact absurd hC id
          · intro tk9 _
            simp only [Bool.false_eq_true, if_false]
            (repeat' ((((fail_if_success (with_reducible show wpAny _ _ (isTrue (Expr.BoolOp _ _ _) _ _) _ _ _)); (((fail_if_success (with_reducible show wpAny _ _ (call (Value.ref _) _) _ _ _)); (fail_if_success (with_reducible show wpAny _ _ (exec (Stmt.While _ _ _ _) _) _ _ _)))))); (first | (k_unfold; (try dsimp only)) | (k_end; wrow_close) | walk1 | (dsimp only; walk1) | (leave1; walk_say "STEP leave1"; try dsimp only) | fail "no step")))
            (rename Fr _ _ _ _ => F9); (rename News _ _ _ _ => N9)
            with_unfolding_all refine while_inv (fun _ m nx => m = _ ∧ nx = _) 0 F9 N9 ⟨rfl, rfl⟩ ?_
            intro n9 m9 nx9 h8 tk8 hp9a F8 N8
            ((try with_reducible show wpAny _ _ _ _ _ _); (try k_fold))
            obtain ⟨rfl, rfl⟩ := hp9a
            clear F9 N9
            (try k_fold)
            refine cut_test False ?_ ?_ ?_
            · k_steps
              all_goals ((((repeat (rename Fr _ _ _ _ => x9; clear x9)); (repeat (rename News _ _ _ _ => x9; clear x9)); (repeat (rename RfAll _ _ _ => x9; clear x9)); (repeat (rename IsTup _ _ _ => x9; clear x9)); (repeat (rename Below _ _ _ _ => x9; clear x9)); (repeat (rename Top _ _ _ _ _ _ => x9; clear x9)); (repeat (rename Frag.In _ _ => x9; clear x9)))); simp_all; done)
            · intro tk9 hC
              exact absurd hC id
            · intro tk9 _
              simp only [Bool.false_eq_true, if_false]
              (repeat' ((((fail_if_success (with_reducible show wpAny _ _ (isTrue (Expr.BoolOp _ _ _) _ _) _ _ _)); (((fail_if_success (with_reducible show wpAny _ _ (call (Value.ref _) _) _ _ _)); (fail_if_success (with_reducible show wpAny _ _ (exec (Stmt.While _ _ _ _) _) _ _ _)))))); (first | (k_unfold; (try dsimp only)) | (k_end; wrow_close) | walk1 | (dsimp only; walk1) | (leave1; walk_say "STEP leave1"; try dsimp only) | fail "no step")))
              (rename Fr _ _ _ _ => F9); (rename News _ _ _ _ => N9)
              simp only [List.push_toArray] at N9
              with_unfolding_all exact turnEnd _ D₂ ys _ _ _ _ _ _ _ _ F9 N9 (.head _) (.tail _ (.head _)) (.tail _ (.tail _ (.head _))) (by assumption) (fun p hp => .tail _ (.tail _ (.tail _ hp))) hDD hLDD (fun p hp => of3 p (.tail _ (.tail _ hp))) hI (by with_unfolding_all rfl) (by (first | (intro z h2 h3; (try dsimp only at h2); (repeat (first | exact skc h3 | (with_reducible exact rfl) | (refine sk (ne_in h3 (by with_reducible first | exact nm_head | exact nm_tail nm_head | exact nm_tail (nm_tail nm_head) | exact nm_tail (nm_tail (nm_tail nm_head)) | exact nm_tail (nm_tail (nm_tail (nm_tail nm_head))) | exact nm_tail (nm_tail (nm_tail (nm_tail (nm_tail nm_head)))) | exact nm_tail (nm_tail (nm_tail (nm_tail (nm_tail (nm_tail nm_head))))) | exact nm_tail (nm_tail (nm_tail (nm_tail (nm_tail (nm_tail (nm_tail nm_head)))))) | exact nm_tail (nm_tail (nm_tail (nm_tail (nm_tail (nm_tail (nm_tail (nm_tail nm_head))))))))) ?_) | (refine sk (ne_h h2) ?_) | (refine sk (ne_h (ne_t h2)) ?_) | (refine sk (ne_h (ne_t (ne_t h2))) ?_) | fail "no name")); done) | (walk_say "OLDSAME"; (((try dsimp +zetaDelta only); intro z h2 h3; (try simp only [List.forall_mem_cons, List.not_mem_nil, false_implies, implies_true, and_true, ne_eq] at h2); (have h4 := h3); (simp only [List.contains_cons, List.contains_nil, Bool.or_false, Bool.or_eq_false_iff, beq_eq_false_iff_ne, ne_eq] at h3); ((simp only [kstB, h2, h3, h4, if_false, Bool.false_eq_true]) <;> rfl))))))
        · refine cut_test True ?_ ?_ ?_
          · k_steps
            all_goals ((((repeat (rename Fr _ _ _ _ => x9; clear x9)); (repeat (rename News _ _ _ _ => x9; clear x9)); (repeat (rename RfAll _ _ _ => x9; clear x9)); (repeat (rename IsTup _ _ _ => x9; clear x9)); (repeat (rename Below _ _ _ _ => x9; clear x9)); (repeat (rename Top _ _ _ _ _ _ => x9; clear x9)); (repeat (rename Frag.In _ _ => x9; clear x9)))); simp_all; done)
          · intro tk9 _
            simp only [if_true]
            (repeat' ((((fail_if_success (with_reducible show wpAny _ _ (isTrue (Expr.BoolOp _ _ _) _ _) _ _ _)); (((fail_if_success (with_reducible show wpAny _ _ (call (Value.ref _) _) _ _ _)); (fail_if_success (with_reducible show wpAny _ _ (exec (Stmt.While _ _ _ _) _) _ _ _)))))); (first | (k_unfold; (try dsimp only)) | (k_end; wrow_close) | walk1 | (dsimp only; walk1) | (leave1; walk_say "STEP leave1"; try dsimp only) | fail "no step")))
            (rename IntsAre _ _ => hI8); (rename @LT.lt Nat _ _ _ ∧ _ => l8)
            (repeat' ((((fail_if_success (with_reducible show wpAny _ _ (isTrue (Expr.BoolOp _ _ _) _ _) _ _ _)); (((fail_if_success (with_reducible show wpAny _ _ (call (Value.ref _) _) _ _ _)); (fail_if_success (with_reducible show wpAny _ _ (exec (Stmt.While _ _ _ _) _) _ _ _)))))); (first | (k_unfold; (try dsimp only)) | (k_end; wrow_close) | walk1 | (dsimp only; walk1) | (leave1; walk_say "STEP leave1"; try dsimp only) | fail "no step")))
            (rename Fr _ _ _ _ => F9); (rename News _ _ _ _ => N9)
            with_unfolding_all refine while_inv (fun _ m nx => m = _ ∧ nx = _) 0 F9 N9 ⟨rfl, rfl⟩ ?_
            intro n9 m9 nx9 h8 tk8 hp9a F8 N8
            ((try with_reducible show wpAny _ _ _ _ _ _); (try k_fold))
            obtain ⟨rfl, rfl⟩ := hp9a
            clear F9 N9
            (try k_fold)
            refine cut_test False ?_ ?_ ?_
            · k_steps
              all_goals ((((repeat (rename Fr _ _ _ _ => x9; clear x9)); (repeat (rename News _ _ _ _ => x9; clear x9)); (repeat (rename RfAll _ _ _ => x9; clear x9)); (repeat (rename IsTup _ _ _ => x9; clear x9)); (repeat (rename Below _ _ _ _ => x9; clear x9)); (repeat (rename Top _ _ _ _ _ _ => x9; clear x9)); (repeat (rename Frag.In _ _ => x9; clear x9)))); simp_all; done)
            · intro tk9 hC
              exact absurd hC id
            · intro tk9 _
              simp only [Bool.false_eq_true, if_false]
              (repeat' ((((fail_if_success (with_reducible show wpAny _ _ (isTrue (Expr.BoolOp _ _ _) _ _) _ _ _)); (((fail_if_success (with_reducible show wpAny _ _ (call (Value.ref _) _) _ _ _)); (fail_if_success (with_reducible show wpAny _ _ (exec (Stmt.While _ _ _ _) _) _ _ _)))))); (first | (k_unfold; (try dsimp only)) | (k_end; wrow_close) | walk1 | (dsimp only; walk1) | (leave1; walk_say "STEP leave1"; try dsimp only) | fail "no step")))
              (rename Fr _ _ _ _ => F9); (rename News _ _ _ _ => N9)
              simp only [List.push_toArray] at N9
              with_unfolding_all exact turnEnd _ _ _ _ _ _ _ _ _ _ _ F9 N9 (.head _) (.tail _ (.tail _ (.head _))) (.tail _ (.tail _ (.tail _ (.head _)))) (by assumption) (fun p hp => .tail _ (.tail _ (.tail _ (.tail _ hp)))) (Nat.ne_of_lt l8.2.1) (Nat.ne_of_lt l8.2.2.1) (fun p hp => Nat.ne_of_lt (ktn_ltOf l8.2.2.2 p hp)) hI8 (by with_unfolding_all rfl) (by (first | (intro z h2 h3; (try dsimp only at h2); (repeat (first | exact skc h3 | (with_reducible exact rfl) | (refine sk (ne_in h3 (by with_reducible first | exact nm_head | exact nm_tail nm_head | exact nm_tail (nm_tail nm_head) | exact nm_tail (nm_tail (nm_tail nm_head)) | exact nm_tail (nm_tail (nm_tail (nm_tail nm_head))) | exact nm_tail (nm_tail (nm_tail (nm_tail (nm_tail nm_head)))) | exact nm_tail (nm_tail (nm_tail (nm_tail (nm_tail (nm_tail nm_head))))) | exact nm_tail (nm_tail (nm_tail (nm_tail (nm_tail (nm_tail (nm_tail nm_head)))))) | exact nm_tail (nm_tail (nm_tail (nm_tail (nm_tail (nm_tail (nm_tail (nm_tail nm_head))))))))) ?_) | (refine sk (ne_h h2) ?_) | (refine sk (ne_h (ne_t h2)) ?_) | (refine sk (ne_h (ne_t (ne_t h2))) ?_) | fail "no name")); done) | (walk_say "OLDSAME"; (((try dsimp +zetaDelta only); intro z h2 h3; (try simp only [List.forall_mem_cons, List.not_mem_nil, false_implies, implies_true, and_true, ne_eq] at h2); (have h4 := h3); (simp only [List.contains_cons, List.contains_nil, Bool.or_false, Bool.or_eq_false_iff, beq_eq_false_iff_ne, ne_eq] at h3); ((simp only [kstB, h2, h3, h4, if_false, Bool.false_eq_true]) <;> rfl))))))
          · intro tk9 hC
            exact absurd trivial hC
    · rw [show (0 + ((2 : Nat) : Int)) = 2 from rfl]
      (with_reducible show wpAny _ _ _ _ _ _); (try k_fold)
      (repeat' ((((fail_if_success (with_reducible show wpAny _ _ (isTrue (Expr.BoolOp _ _ _) _ _) _ _ _)); (((fail_if_success (with_reducible show wpAny _ _ (call (Value.ref _) _) _ _ _)); (fail_if_success (with_reducible show wpAny _ _ (exec (Stmt.While _ _ _ _) _) _ _ _)))))); (first | (k_unfold; (try dsimp only)) | (k_end; wrow_close) | walk1 | (dsimp only; walk1) | (leave1; walk_say "STEP leave1"; try dsimp only) | fail "no step")))
      (rename Fr _ _ _ _ => lF); (rename News _ _ _ _ => lN)
      refine comp_listT (fun j => (nz ((ws.take j).map (·.2.2.1))).map .int) rfl lF lN (.inl hl) (by rw [hlen, List.length_map]; first | exact fit100 (by assumption) | exact fit1000 (by assumption) | exact fit500 (by assumption) | (rw [sizeLine_eq]; omega)) rfl ?_ ?_
      · intro j v ys tl I' oI C oC D₂ m₂ h tk E' hv hR hC hx F₁ N₁ off ne
        ((try with_reducible show wpAny _ _ _ _ _ _); (try k_fold))
        obtain ⟨d, hd1, hd2⟩ := hget j v hv
        obtain ⟨e, he, rfl⟩ : ∃ e, ws[j]? = some e ∧ rP e = d := by simpa using hd1
        obtain ⟨ax, q1, q2, q3, q4, rfl, hT⟩ := rd_row hd2
        have hp9 := hpos e (List.mem_of_getElem? he)
        obtain ⟨p, q, r, z⟩ := e
        obtain ⟨hp1, hp2, hp3, hp4⟩ := hp9
        dsimp only at hT hp1 hp2 hp3 hp4
        have hT' := hT.keeps F₁.keep
        have hs1 := map_take_succ (·.2.2.1) ws j _ he
        (try dsimp only at hs1)
        clear lF lN hget hT hd1 hd2
        (try k_fold)
        k_steps
        all_goals (
          (rename Fr _ _ _ _ => F9); (rename News _ _ _ _ => N9)
          refine LCg.CompEnd.intro F9 N9 _ (fun _ h => h) off (.inl hl) ⟨tl, rfl, ?_⟩
          (try dsimp only)
          rw [hs1, nz_snoc]
          first | (rw [if_pos (by omega), List.map_append]; exact hR.append (.cons Rf.int .nil)) | (rw [if_neg (by omega), List.append_nil]; exact hR))
      · intro g9 tlz ys hR
        intro D₂ h9 tk9 F9 N9 o9
        clear lF lN
        have e1 : ws.take vs.length = ws := by rw [List.take_of_length_le]; rw [hlen, List.length_map]; exact Nat.le_refl _
        rw [e1] at hR
        have hI : IntsAre ys (nz (ws.map (·.2.2.1))) := rfAll_ints N9 (fun p hp => .tail _ (List.mem_append.mpr (.inl hp))) hR
        have hln : ys.length ≤ 100 := by rw [hI.length]; have := nz_len (ws.map (·.2.2.1)); rw [List.length_map] at this; omega
        have of2 := off1_mem o9
        have N8 := News.sub (b := (D₂, LCg.lst ys) :: (D, listOf (List.toArray us) n) :: (L' + 1, _) :: (tl ++ own)) N9 (fun p hp => by
          rcases List.mem_cons.mp hp with rfl | hp
          · exact .head _
          · exact .tail _ (List.mem_append.mpr (.inr hp)))
        have of3 : ∀ p ∈ (D, listOf (List.toArray us) n) :: (L' + 1, _) :: (tl ++ own), p.1 ≠ D₂ := fun p hp => of2 p (List.mem_append.mpr (.inr hp))
        have hDD : @Ne Nat D D₂ := of3 _ (.head _)
        have hLDD : @Ne Nat (L' + 1) D₂ := of3 _ (.tail _ (.head _))
        clear N9 o9 hR of2
        (repeat' ((((fail_if_success (with_reducible show wpAny _ _ (isTrue (Expr.BoolOp _ _ _) _ _) _ _ _)); (((fail_if_success (with_reducible show wpAny _ _ (call (Value.ref _) _) _ _ _)); (fail_if_success (with_reducible show wpAny _ _ (exec (Stmt.While _ _ _ _) _) _ _ _)))))); (first | (k_unfold; (try dsimp only)) | (k_end; wrow_close) | walk1 | (dsimp only; walk1) | (leave1; walk_say "STEP leave1"; try dsimp only) | fail "no step")))
        refine cut_test False ?_ ?_ ?_
        · k_steps
          all_goals ((((repeat (rename Fr _ _ _ _ => x9; clear x9)); (repeat (rename News _ _ _ _ => x9; clear x9)); (repeat (rename RfAll _ _ _ => x9; clear x9)); (repeat (rename IsTup _ _ _ => x9; clear x9)); (repeat (rename Below _ _ _ _ => x9; clear x9)); (repeat (rename Top _ _ _ _ _ _ => x9; clear x9)); (repeat (rename Frag.In _ _ => x9; clear x9)))); simp_all; done)
        · intro tk9 hC
          exact absurd hC id
        · intro tk9 _
          simp only [Bool.false_eq_true, if_false]
          (repeat' ((((fail_if_success (with_reducible show wpAny _ _ (isTrue (Expr.BoolOp _ _ _) _ _) _ _ _)); (((fail_if_success (with_reducible show wpAny _ _ (call (Value.ref _) _) _ _ _)); (fail_if_success (with_reducible show wpAny _ _ (exec (Stmt.While _ _ _ _) _) _ _ _)))))); (first | (k_unfold; (try dsimp only)) | (k_end; wrow_close) | walk1 | (dsimp only; walk1) | (leave1; walk_say "STEP leave1"; try dsimp only) | fail "no step")))
          (rename Fr _ _ _ _ => F9); (rename News _ _ _ _ => N9)
          with_unfolding_all refine while_inv (fun _ m nx => m = _ ∧ nx = _) 0 F9 N9 ⟨rfl, rfl⟩ ?_
          intro n9 m9 nx9 h8 tk8 hp9a F8 N8
          ((try with_reducible show wpAny _ _ _ _ _ _); (try k_fold))
          obtain ⟨rfl, rfl⟩ := hp9a
          clear F9 N9
          (try k_fold)
          refine cut_test False ?_ ?_ ?_
          · k_steps
            all_goals ((((repeat (rename Fr _ _ _ _ => x9; clear x9)); (repeat (rename News _ _ _ _ => x9; clear x9)); (repeat (rename RfAll _ _ _ => x9; clear x9)); (repeat (rename IsTup _ _ _ => x9; clear x9)); (repeat (rename Below _ _ _ _ => x9; clear x9)); (repeat (rename Top _ _ _ _ _ _ => x9; clear x9)); (repeat (rename Frag.In _ _ => x9; clear x9)))); simp_all; done)
          · intro tk9 hC
            exact absurd hC id
          · intro tk9 _
            simp only [Bool.false_eq_true, if_false]
            (repeat' ((((fail_if_success (with_reducible show wpAny _ _ (isTrue (Expr.BoolOp _ _ _) _ _) _ _ _)); (((fail_if_success (with_reducible show wpAny _ _ (call (Value.ref _) _) _ _ _)); (fail_if_success (with_reducible show wpAny _ _ (exec (Stmt.While _ _ _ _) _) _ _ _)))))); (first | (k_unfold; (try dsimp only)) | (k_end; wrow_close) | walk1 | (dsimp only; walk1) | (leave1; walk_say "STEP leave1"; try dsimp only) | fail "no step")))
            (rename Fr _ _ _ _ => F9); (rename News _ _ _ _ => N9)
            simp only [List.push_toArray] at N9
            with_unfolding_all exact turnEnd _ D₂ ys _ _ _ _ _ _ _ _ F9 N9 (.head _) (.tail _ (.head _)) (.tail _ (.tail _ (.head _))) (by assumption) (fun p hp => .tail _ (.tail _ (.tail _ hp))) hDD hLDD (fun p hp => of3 p (.tail _ (.tail _ hp))) hI (by with_unfolding_all rfl) (by (first | (intro z h2 h3; (try dsimp only at h2); (repeat (first | exact skc h3 | (with_reducible exact rfl) | (refine sk (ne_in h3 (by with_reducible first | exact nm_head | exact nm_tail nm_head | exact nm_tail (nm_tail nm_head) | exact nm_tail (nm_tail (nm_tail nm_head)) | exact nm_tail (nm_tail (nm_tail (nm_tail nm_head))) | exact nm_tail (nm_tail (nm_tail (nm_tail (nm_tail nm_head)))) | exact nm_tail (nm_tail (nm_tail (nm_tail (nm_tail (nm_tail nm_head))))) | exact nm_tail (nm_tail (nm_tail (nm_tail (nm_tail (nm_tail (nm_tail nm_head)))))) | exact nm_tail (nm_tail (nm_tail (nm_tail (nm_tail (nm_tail (nm_tail (nm_tail nm_head))))))))) ?_) | (refine sk (ne_h h2) ?_) | (refine sk (ne_h (ne_t h2)) ?_) | (refine sk (ne_h (ne_t (ne_t h2))) ?_) | fail "no name")); done) | (walk_say "OLDSAME"; (((try dsimp +zetaDelta only); intro z h2 h3; (try simp only [List.forall_mem_cons, List.not_mem_nil, false_implies, implies_true, and_true, ne_eq] at h2); (have h4 := h3); (simp only [List.contains_cons, List.contains_nil, Bool.or_false, Bool.or_eq_false_iff, beq_eq_false_iff_ne, ne_eq] at h3); ((simp only [kstB, h2, h3, h4, if_false, Bool.false_eq_true]) <;> rfl))))))
    · rw [show (0 + ((3 : Nat) : Int)) = 3 from rfl]
      (with_reducible show wpAny _ _ _ _ _ _); (try k_fold)
      (repeat' ((((fail_if_success (with_reducible show wpAny _ _ (isTrue (Expr.BoolOp _ _ _) _ _) _ _ _)); (((fail_if_success (with_reducible show wpAny _ _ (call (Value.ref _) _) _ _ _)); (fail_if_success (with_reducible show wpAny _ _ (exec (Stmt.While _ _ _ _) _) _ _ _)))))); (first | (k_unfold; (try dsimp only)) | (k_end; wrow_close) | walk1 | (dsimp only; walk1) | (leave1; walk_say "STEP leave1"; try dsimp only) | fail "no step")))
      (rename Fr _ _ _ _ => lF); (rename News _ _ _ _ => lN)
      refine comp_listT (fun j => (nz ((ws.take j).map (·.2.2.2))).map .int) rfl lF lN (.inl hl) (by rw [hlen, List.length_map]; first | exact fit100 (by assumption) | exact fit1000 (by assumption) | exact fit500 (by assumption) | (rw [sizeLine_eq]; omega)) rfl ?_ ?_
      · intro j v ys tl I' oI C oC D₂ m₂ h tk E' hv hR hC hx F₁ N₁ off ne
        ((try with_reducible show wpAny _ _ _ _ _ _); (try k_fold))
        obtain ⟨d, hd1, hd2⟩ := hget j v hv
        obtain ⟨e, he, rfl⟩ : ∃ e, ws[j]? = some e ∧ rP e = d := by simpa using hd1
        obtain ⟨ax, q1, q2, q3, q4, rfl, hT⟩ := rd_row hd2
        have hp9 := hpos e (List.mem_of_getElem? he)
        obtain ⟨p, q, r, z⟩ := e
        obtain ⟨hp1, hp2, hp3, hp4⟩ := hp9
        dsimp only at hT hp1 hp2 hp3 hp4
        have hT' := hT.keeps F₁.keep
        have hs1 := map_take_succ (·.2.2.2) ws j _ he
        (try dsimp only at hs1)
        clear lF lN hget hT hd1 hd2
        (try k_fold)
        k_steps
        all_goals (
          (rename Fr _ _ _ _ => F9); (rename News _ _ _ _ => N9)
          refine LCg.CompEnd.intro F9 N9 _ (fun _ h => h) off (.inl hl) ⟨tl, rfl, ?_⟩
          (try dsimp only)
          rw [hs1, nz_snoc]
          first | (rw [if_pos (by omega), List.map_append]; exact hR.append (.cons Rf.int .nil)) | (rw [if_neg (by omega), List.append_nil]; exact hR))
      · intro g9 tlz ys hR
        intro D₂ h9 tk9 F9 N9 o9
        clear lF lN
        have e1 : ws.take vs.length = ws := by rw [List.take_of_length_le]; rw [hlen, List.length_map]; exact Nat.le_refl _
        rw [e1] at hR
        have hI : IntsAre ys (nz (ws.map (·.2.2.2))) := rfAll_ints N9 (fun p hp => .tail _ (List.mem_append.mpr (.inl hp))) hR
        have hln : ys.length ≤ 100 := by rw [hI.length]; have := nz_len (ws.map (·.2.2.2)); rw [List.length_map] at this; omega
        have of2 := off1_mem o9
        have N8 := News.sub (b := (D₂, LCg.lst ys) :: (D, listOf (List.toArray us) n) :: (L' + 1, _) :: (tl ++ own)) N9 (fun p hp => by
          rcases List.mem_cons.mp hp with rfl | hp
          · exact .head _
          · exact .tail _ (List.mem_append.mpr (.inr hp)))
        have of3 : ∀ p ∈ (D, listOf (List.toArray us) n) :: (L' + 1, _) :: (tl ++ own), p.1 ≠ D₂ := fun p hp => of2 p (List.mem_append.mpr (.inr hp))
        have hDD : @Ne Nat D D₂ := of3 _ (.head _)
        have hLDD : @Ne Nat (L' + 1) D₂ := of3 _ (.tail _ (.head _))
        clear N9 o9 hR of2
        (repeat' ((((fail_if_success (with_reducible show wpAny _ _ (isTrue (Expr.BoolOp _ _ _) _ _) _ _ _)); (((fail_if_success (with_reducible show wpAny _ _ (call (Value.ref _) _) _ _ _)); (fail_if_success (with_reducible show wpAny _ _ (exec (Stmt.While _ _ _ _) _) _ _ _)))))); (first | (k_unfold; (try dsimp only)) | (k_end; wrow_close) | walk1 | (dsimp only; walk1) | (leave1; walk_say "STEP leave1"; try dsimp only) | fail "no step")))
        refine cut_test False ?_ ?_ ?_
        · k_steps
          all_goals ((((repeat (rename Fr _ _ _ _ => x9; clear x9)); (repeat (rename News _ _ _ _ => x9; clear x9)); (repeat (rename RfAll _ _ _ => x9; clear x9)); (repeat (rename IsTup _ _ _ => x9; clear x9)); (repeat (rename Below _ _ _ _ => x9; clear x9)); (repeat (rename Top _ _ _ _ _ _ => x9; clear x9)); (repeat (rename Frag.In _ _ => x9; clear x9)))); simp_all; done)
        · intro tk9 hC
          exact absurd hC id
        · intro tk9 _
          simp only [Bool.false_eq_true, if_false]
          (repeat' ((((fail_if_success (with_reducible show wpAny _ _ (isTrue (Expr.BoolOp _ _ _) _ _) _ _ _)); (((fail_if_success (with_reducible show wpAny _ _ (call (Value.ref _) _) _ _ _)); (fail_if_success (with_reducible show wpAny _ _ (exec (Stmt.While _ _ _ _) _) _ _ _)))))); (first | (k_unfold; (try dsimp only)) | (k_end; wrow_close) | walk1 | (dsimp only; walk1) | (leave1; walk_say "STEP leave1"; try dsimp only) | fail "no step")))
          cases how
          all_goals ((rename Fr _ _ _ _ => lF9); (try dsimp +zetaDelta only [How.str] at lF9); (try dsimp only [How.str]))
          · (rename Fr _ _ _ _ => F9); (rename News _ _ _ _ => N9)
            with_unfolding_all refine while_inv (fun _ m nx => m = _ ∧ nx = _) 0 F9 N9 ⟨rfl, rfl⟩ ?_
            intro n9 m9 nx9 h8 tk8 hp9a F8 N8
            ((try with_reducible show wpAny _ _ _ _ _ _); (try k_fold))
            obtain ⟨rfl, rfl⟩ := hp9a
            clear F9 N9
            (try k_fold)
            refine cut_test False ?_ ?_ ?_
            · k_steps
              all_goals ((((repeat (rename Fr _ _ _ _ => x9; clear x9)); (repeat (rename News _ _ _ _ => x9; clear x9)); (repeat (rename RfAll _ _ _ => x9; clear x9)); (repeat (rename IsTup _ _ _ => x9; clear x9)); (repeat (rename Below _ _ _ _ => x9; clear x9)); (repeat (rename Top _ _ _ _ _ _ => x9; clear x9)); (repeat (rename Frag.In _ _ => x9; clear x9)))); simp_all; done)
            · intro tk9 hC
              exact absurd hC id
            · intro tk9 _
              simp only [Bool.false_eq_true, if_false]
              (repeat' ((((fail_if_success (with_reducible show wpAny _ _ (isTrue (Expr.BoolOp _ _ _) _ _) _ _ _)); (((fail_if_success (with_reducible show wpAny _ _ (call (Value.ref _) _) _ _ _)); (fail_if_success (with_reducible show wpAny _ _ (exec (Stmt.While _ _ _ _) _) _ _ _)))))); (first | (k_unfold; (try dsimp only)) | (k_end; wrow_close) | walk1 | (dsimp only; walk1) | (leave1; walk_say "STEP leave1"; try dsimp only) | fail "no step")))
              (rename Fr _ _ _ _ => F9); (rename News _ _ _ _ => N9)
              simp only [List.push_toArray] at N9
              with_unfolding_all exact turnEnd _ D₂ ys _ _ _ _ _ _ _ _ F9 N9 (.head _) (.tail _ (.head _)) (.tail _ (.tail _ (.head _))) (by assumption) (fun p hp => .tail _ (.tail _ (.tail _ hp))) hDD hLDD (fun p hp => of3 p (.tail _ (.tail _ hp))) hI (by with_unfolding_all rfl) (by (first | (intro z h2 h3; (try dsimp only at h2); (repeat (first | exact skc h3 | (with_reducible exact rfl) | (refine sk (ne_in h3 (by with_reducible first | exact nm_head | exact nm_tail nm_head | exact nm_tail (nm_tail nm_head) | exact nm_tail (nm_tail (nm_tail nm_head)) | exact nm_tail (nm_tail (nm_tail (nm_tail nm_head))) | exact nm_tail (nm_tail (nm_tail (nm_tail (nm_tail nm_head)))) | exact nm_tail (nm_tail (nm_tail (nm_tail (nm_tail (nm_tail nm_head))))) | exact nm_tail (nm_tail (nm_tail (nm_tail (nm_tail (nm_tail (nm_tail nm_head)))))) | exact nm_tail (nm_tail (nm_tail (nm_tail (nm_tail (nm_tail (nm_tail (nm_tail nm_head))))))))) ?_) | (refine sk (ne_h h2) ?_) | (refine sk (ne_h (ne_t h2)) ?_) | (refine sk (ne_h (ne_t (ne_t h2))) ?_) | fail "no name")); done) | (walk_say "OLDSAME"; (((try dsimp +zetaDelta only); intro z h2 h3; (try simp only [List.forall_mem_cons, List.not_mem_nil, false_implies, implies_true, and_true, ne_eq] at h2); (have h4 := h3); (simp only [List.contains_cons, List.contains_nil, Bool.or_false, Bool.or_eq_false_iff, beq_eq_false_iff_ne, ne_eq] at h3); ((simp only [kstB, h2, h3, h4, if_false, Bool.false_eq_true]) <;> rfl))))))
          · (rename Fr _ _ _ _ => F9); (rename News _ _ _ _ => N9)
            with_unfolding_all refine while_inv (fun _ m nx => m = _ ∧ nx = _) 0 F9 N9 ⟨rfl, rfl⟩ ?_
            intro n9 m9 nx9 h8 tk8 hp9a F8 N8
            ((try with_reducible show wpAny _ _ _ _ _ _); (try k_fold))
            obtain ⟨rfl, rfl⟩ := hp9a
            clear F9 N9
            (try k_fold)
            refine cut_test False ?_ ?_ ?_
            · k_steps
              all_goals ((((repeat (rename Fr _ _ _ _ => x9; clear x9)); (repeat (rename News _ _ _ _ => x9; clear x9)); (repeat (rename RfAll _ _ _ => x9; clear x9)); (repeat (rename IsTup _ _ _ => x9; clear x9)); (repeat (rename Below _ _ _ _ => x9; clear x9)); (repeat (rename Top _ _ _ _ _ _ => x9; clear x9)); (repeat (rename Frag.In _ _ => x9; clear x9)))); simp_all; done)
            · intro tk9 hC
              exact absurd hC id
            · intro tk9 _
              simp only [Bool.false_eq_true, if_false]
              (repeat' ((((fail_if_success (with_reducible show wpAny _ _ (isTrue (Expr.BoolOp _ _ _) _ _) _ _ _)); (((fail_if_success (with_reducible show wpAny _ _ (call (Value.ref _) _) _ _ _)); (fail_if_success (with_reducible show wpAny _ _ (exec (Stmt.While _ _ _ _) _) _ _ _)))))); (first | (k_unfold; (try dsimp only)) | (k_end; wrow_close) | walk1 | (dsimp only; walk1) | (leave1; walk_say "STEP leave1"; try dsimp only) | fail "no step")))
              (rename Fr _ _ _ _ => F9); (rename News _ _ _ _ => N9)
              simp only [List.push_toArray] at N9
              with_unfolding_all exact turnEnd _ D₂ ys _ _ _ _ _ _ _ _ F9 N9 (.head _) (.tail _ (.head _)) (.tail _ (.tail _ (.head _))) (by assumption) (fun p hp => .tail _ (.tail _ (.tail _ hp))) hDD hLDD (fun p hp => of3 p (.tail _ (.tail _ hp))) hI (by with_unfolding_all rfl) (by (first | (intro z h2 h3; (try dsimp only at h2); (repeat (first | exact skc h3 | (with_reducible exact rfl) | (refine sk (ne_in h3 (by with_reducible first | exact nm_head | exact nm_tail nm_head | exact nm_tail (nm_tail nm_head) | exact nm_tail (nm_tail (nm_tail nm_head)) | exact nm_tail (nm_tail (nm_tail (nm_tail nm_head))) | exact nm_tail (nm_tail (nm_tail (nm_tail (nm_tail nm_head)))) | exact nm_tail (nm_tail (nm_tail (nm_tail (nm_tail (nm_tail nm_head))))) | exact nm_tail (nm_tail (nm_tail (nm_tail (nm_tail (nm_tail (nm_tail nm_head)))))) | exact nm_tail (nm_tail (nm_tail (nm_tail (nm_tail (nm_tail (nm_tail (nm_tail nm_head))))))))) ?_) | (refine sk (ne_h h2) ?_) | (refine sk (ne_h (ne_t h2)) ?_) | (refine sk (ne_h (ne_t (ne_t h2))) ?_) | fail "no name")); done) | (walk_say "OLDSAME"; (((try dsimp +zetaDelta only); intro z h2 h3; (try simp only [List.forall_mem_cons, List.not_mem_nil, false_implies, implies_true, and_true, ne_eq] at h2); (have h4 := h3); (simp only [List.contains_cons, List.contains_nil, Bool.or_false, Bool.or_eq_false_iff, beq_eq_false_iff_ne, ne_eq] at h3); ((simp only [kstB, h2, h3, h4, if_false, Bool.false_eq_true]) <;> rfl))))))
          · (rename Fr _ _ _ _ => F9); (rename News _ _ _ _ => N9)
            with_unfolding_all refine while_inv (fun _ m nx => m = _ ∧ nx = _) 0 F9 N9 ⟨rfl, rfl⟩ ?_
            intro n9 m9 nx9 h8 tk8 hp9a F8 N8
            ((try with_reducible show wpAny _ _ _ _ _ _); (try k_fold))
            obtain ⟨rfl, rfl⟩ := hp9a
            clear F9 N9
            (try k_fold)
            refine cut_test False ?_ ?_ ?_
            · k_steps
              all_goals ((((repeat (rename Fr _ _ _ _ => x9; clear x9)); (repeat (rename News _ _ _ _ => x9; clear x9)); (repeat (rename RfAll _ _ _ => x9; clear x9)); (repeat (rename IsTup _ _ _ => x9; clear x9)); (repeat (rename Below _ _ _ _ => x9; clear x9)); (repeat (rename Top _ _ _ _ _ _ => x9; clear x9)); (repeat (rename Frag.In _ _ => x9; clear x9)))); simp_all; done)
            · intro tk9 hC
              exact absurd hC id
            · intro tk9 _
              simp only [Bool.false_eq_true, if_false]
              (repeat' ((((fail_if_success (with_reducible show wpAny _ _ (isTrue (Expr.BoolOp _ _ _) _ _) _ _ _)); (((fail_if_success (with_reducible show wpAny _ _ (call (Value.ref _) _) _ _ _)); (fail_if_success (with_reducible show wpAny _ _ (exec (Stmt.While _ _ _ _) _) _ _ _)))))); (first | (k_unfold; (try dsimp only)) | (k_end; wrow_close) | walk1 | (dsimp only; walk1) | (leave1; walk_say "STEP leave1"; try dsimp only) | fail "no step")))
              (rename Fr _ _ _ _ => F9); (rename News _ _ _ _ => N9)
              simp only [List.push_toArray] at N9
              with_unfolding_all exact turnEnd _ D₂ ys _ _ _ _ _ _ _ _ F9 N9 (.head _) (.tail _ (.head _)) (.tail _ (.tail _ (.head _))) (by assumption) (fun p hp => .tail _ (.tail _ (.tail _ hp))) hDD hLDD (fun p hp => of3 p (.tail _ (.tail _ hp))) hI (by with_unfolding_all rfl) (by (first | (intro z h2 h3; (try dsimp only at h2); (repeat (first | exact skc h3 | (with_reducible exact rfl) | (refine sk (ne_in h3 (by with_reducible first | exact nm_head | exact nm_tail nm_head | exact nm_tail (nm_tail nm_head) | exact nm_tail (nm_tail (nm_tail nm_head)) | exact nm_tail (nm_tail (nm_tail (nm_tail nm_head))) | exact nm_tail (nm_tail (nm_tail (nm_tail (nm_tail nm_head)))) | exact nm_tail (nm_tail (nm_tail (nm_tail (nm_tail (nm_tail nm_head))))) | exact nm_tail (nm_tail (nm_tail (nm_tail (nm_tail (nm_tail (nm_tail nm_head)))))) | exact nm_tail (nm_tail (nm_tail (nm_tail (nm_tail (nm_tail (nm_tail (nm_tail nm_head))))))))) ?_) | (refine sk (ne_h h2) ?_) | (refine sk (ne_h (ne_t h2)) ?_) | (refine sk (ne_h (ne_t (ne_t h2))) ?_) | fail "no name")); done) | (walk_say "OLDSAME"; (((try dsimp +zetaDelta only); intro z h2 h3; (try simp only [List.forall_mem_cons, List.not_mem_nil, false_implies, implies_true, and_true, ne_eq] at h2); (have h4 := h3); (simp only [List.contains_cons, List.contains_nil, Bool.or_false, Bool.or_eq_false_iff, beq_eq_false_iff_ne, ne_eq] at h3); ((simp only [kstB, h2, h3, h4, if_false, Bool.false_eq_true]) <;> rfl))))))
          · (rename Fr _ _ _ _ => F9); (rename News _ _ _ _ => N9)
            with_unfolding_all refine while_inv (fun n9 m9 nx9 => ∃ E zs ke ns, MapIs [((Str.ofString "level"), .ref E)] [] _ m9 ∧ nx9 = (E, listOf (List.toArray zs) ke) :: (D, listOf (List.toArray us) n) :: (L' + 1, _) :: (tl ++ own) ∧ IntsAre zs ns ∧ zs.length = n9 ∧ zs.length ≤ 100 ∧ trimR ns = trimR (nz (ws.map (·.2.2.2))) ∧ @Ne Nat D E ∧ @Ne Nat (L' + 1) E ∧ (∀ p ∈ tl ++ own, p.1 ≠ E)) ys.length F9 N9 ⟨D₂, ys, _, _, MapIs.start (by kst_all), rfl, hI, rfl, hln, rfl, hDD, hLDD, fun p hp => of3 p (.tail _ (.tail _ hp))⟩ ?_
            intro n9 m9 nx9 h8 tk8 hp9a F8 N8
            ((try with_reducible show wpAny _ _ _ _ _ _); (try k_fold))
            obtain ⟨E, zs, ke, ns, hm, rfl, hI8, hn8, hl8, ht8, hDE, hLE, htE⟩ := hp9a
            rw [hm.form] at F8
            clear F9 N9 hm
            rcases List.eq_nil_or_concat ns with rfl | ⟨ms, x9, rfl⟩
            · cases hI8
              (try k_fold)
              k_steps
              (rename Fr _ _ _ _ => F9); (rename News _ _ _ _ => N9)
              simp only [List.push_toArray] at N9
              have hI9 : IntsAre [] (levK .st bw ws 3) := by rw [show levK .st bw ws 3 = [] from ht8.symm]; exact .nil
              with_unfolding_all exact turnEnd _ E [] _ _ _ _ _ _ _ _ F9 N9 (.tail _ (.tail _ (.head _))) (.tail _ (.tail _ (.tail _ (.head _)))) (.tail _ (.tail _ (.tail _ (.tail _ (.head _))))) (by assumption) (fun p hp => .tail _ (.tail _ (.tail _ (.tail _ (.tail _ hp))))) hDE hLE htE hI9 (by with_unfolding_all rfl) (by (first | (intro z h2 h3; (try dsimp only at h2); (repeat (first | exact skc h3 | (with_reducible exact rfl) | (refine sk (ne_in h3 (by with_reducible first | exact nm_head | exact nm_tail nm_head | exact nm_tail (nm_tail nm_head) | exact nm_tail (nm_tail (nm_tail nm_head)) | exact nm_tail (nm_tail (nm_tail (nm_tail nm_head))) | exact nm_tail (nm_tail (nm_tail (nm_tail (nm_tail nm_head)))) | exact nm_tail (nm_tail (nm_tail (nm_tail (nm_tail (nm_tail nm_head))))) | exact nm_tail (nm_tail (nm_tail (nm_tail (nm_tail (nm_tail (nm_tail nm_head)))))) | exact nm_tail (nm_tail (nm_tail (nm_tail (nm_tail (nm_tail (nm_tail (nm_tail nm_head))))))))) ?_) | (refine sk (ne_h h2) ?_) | (refine sk (ne_h (ne_t h2)) ?_) | (refine sk (ne_h (ne_t (ne_t h2))) ?_) | fail "no name")); done) | (walk_say "OLDSAME"; (((try dsimp +zetaDelta only); intro z h2 h3; (try simp only [List.forall_mem_cons, List.not_mem_nil, false_implies, implies_true, and_true, ne_eq] at h2); (have h4 := h3); (simp only [List.contains_cons, List.contains_nil, Bool.or_false, Bool.or_eq_false_iff, beq_eq_false_iff_ne, ne_eq] at h3); ((simp only [kstB, h2, h3, h4, if_false, Bool.false_eq_true]) <;> rfl))))))
            · rw [List.concat_eq_append] at hI8 ht8
              have hln9 : (ms ++ [x9]).length ≤ 100 := by rw [← hI8.length]; exact hl8
              have hpos : 0 < zs.length := by rw [hI8.length]; simp
              have hdrop : List.drop ((ms ++ [x9]).length - 1) (ms ++ [x9]) = [x9] := by rw [List.length_append, List.length_singleton, Nat.add_sub_cancel, List.drop_left]
              have htake : List.take ((ms ++ [x9]).length - 1) (ms ++ [x9]) = ms := by rw [List.length_append, List.length_singleton, Nat.add_sub_cancel, List.take_left]
              have hms : zs.length = ms.length + 1 := by rw [hI8.length]; simp
              (try k_fold)
              k_steps
              · (rename Fr _ _ _ _ => F9); (rename News _ _ _ _ => N9); (rename List.drop _ _ = _ => hx9); (rename IntsAre _ _ => hI9); (rename @LT.lt Nat _ _ _ ∧ _ => l9)
                rw [hdrop] at hx9
                rw [htake] at hI9
                rw [trimR_snoc, if_pos (by simpa using hx9)] at ht8
                have hl9 : _ = _ := hI9.length
                with_unfolding_all exact ⟨ms.length, _, _, _, _, by omega, rfl, F9, News.sub N9 (List.forall_mem_cons.mpr ⟨.head _, List.forall_mem_cons.mpr ⟨.tail _ (.tail _ (.tail _ (.tail _ (.head _)))), List.forall_mem_cons.mpr ⟨.tail _ (.tail _ (.tail _ (.tail _ (.tail _ (.head _))))), fun p hp => .tail _ (.tail _ (.tail _ (.tail _ (.tail _ (.tail _ hp)))))⟩⟩⟩), _, _, _, ms, ⟨by kst_all, by (first | (intro z h2 h3; (try dsimp only at h2); (repeat (first | exact skc h3 | (with_reducible exact rfl) | (refine sk (ne_in h3 (by with_reducible first | exact nm_head | exact nm_tail nm_head | exact nm_tail (nm_tail nm_head) | exact nm_tail (nm_tail (nm_tail nm_head)) | exact nm_tail (nm_tail (nm_tail (nm_tail nm_head))) | exact nm_tail (nm_tail (nm_tail (nm_tail (nm_tail nm_head)))) | exact nm_tail (nm_tail (nm_tail (nm_tail (nm_tail (nm_tail nm_head))))) | exact nm_tail (nm_tail (nm_tail (nm_tail (nm_tail (nm_tail (nm_tail nm_head)))))) | exact nm_tail (nm_tail (nm_tail (nm_tail (nm_tail (nm_tail (nm_tail (nm_tail nm_head))))))))) ?_) | (refine sk (ne_h h2) ?_) | (refine sk (ne_h (ne_t h2)) ?_) | (refine sk (ne_h (ne_t (ne_t h2))) ?_) | fail "no name")); done) | (walk_say "OLDSAME"; (((try dsimp +zetaDelta only); intro z h2 h3; (try simp only [List.forall_mem_cons, List.not_mem_nil, false_implies, implies_true, and_true, ne_eq] at h2); (have h4 := h3); (simp only [List.contains_cons, List.contains_nil, Bool.or_false, Bool.or_eq_false_iff, beq_eq_false_iff_ne, ne_eq] at h3); ((simp only [kstB, h2, h3, h4, if_false, Bool.false_eq_true]) <;> rfl)))))⟩, rfl, hI9, hl9, by omega, ht8, Nat.ne_of_lt l9.2.2.2.1, Nat.ne_of_lt l9.2.2.2.2.1, fun p hp => Nat.ne_of_lt (ktn_ltOf l9.2.2.2.2.2 p hp)⟩
              · (rename Fr _ _ _ _ => F9); (rename News _ _ _ _ => N9); (rename ¬ List.drop _ _ = _ => hx9)
                simp only [List.push_toArray] at N9
                rw [hdrop] at hx9
                rw [trimR_snoc, if_neg (by simpa using hx9)] at ht8
                have hI9 : IntsAre zs (levK .st bw ws 3) := by rw [show levK .st bw ws 3 = _ from ht8.symm]; exact hI8
                with_unfolding_all exact turnEnd _ E zs _ _ _ _ _ _ _ _ F9 N9 (.tail _ (.tail _ (.head _))) (.tail _ (.tail _ (.tail _ (.head _)))) (.tail _ (.tail _ (.tail _ (.tail _ (.head _))))) (by assumption) (fun p hp => .tail _ (.tail _ (.tail _ (.tail _ (.tail _ hp))))) hDE hLE htE hI9 (by with_unfolding_all rfl) (by (first | (intro z h2 h3; (try dsimp only at h2); (repeat (first | exact skc h3 | (with_reducible exact rfl) | (refine sk (ne_in h3 (by with_reducible first | exact nm_head | exact nm_tail nm_head | exact nm_tail (nm_tail nm_head) | exact nm_tail (nm_tail (nm_tail nm_head)) | exact nm_tail (nm_tail (nm_tail (nm_tail nm_head))) | exact nm_tail (nm_tail (nm_tail (nm_tail (nm_tail nm_head)))) | exact nm_tail (nm_tail (nm_tail (nm_tail (nm_tail (nm_tail nm_head))))) | exact nm_tail (nm_tail (nm_tail (nm_tail (nm_tail (nm_tail (nm_tail nm_head)))))) | exact nm_tail (nm_tail (nm_tail (nm_tail (nm_tail (nm_tail (nm_tail (nm_tail nm_head))))))))) ?_) | (refine sk (ne_h h2) ?_) | (refine sk (ne_h (ne_t h2)) ?_) | (refine sk (ne_h (ne_t (ne_t h2))) ?_) | fail "no name")); done) | (walk_say "OLDSAME"; (((try dsimp +zetaDelta only); intro z h2 h3; (try simp only [List.forall_mem_cons, List.not_mem_nil, false_implies, implies_true, and_true, ne_eq] at h2); (have h4 := h3); (simp only [List.contains_cons, List.contains_nil, Bool.or_false, Bool.or_eq_false_iff, beq_eq_false_iff_ne, ne_eq] at h3); ((simp only [kstB, h2, h3, h4, if_false, Bool.false_eq_true]) <;> rfl))))))
  · clear lF lN lL lR
    intro ps u nx h tk hp9a F₁ N₁
    ((try with_reducible show wpAny _ _ _ _ _ _); (try k_fold))
    obtain ⟨D, us, n, oc, v0, tl, rfl, rfl, hoc, hLD, hR, hD, hL⟩ := hp9a
    change Fr g L' h _ at F₁; change News g L' h _ at N₁
    (with_reducible show wpAny _ _ _ _ _ _); (try k_fold)
    (repeat' ((((fail_if_success (with_reducible show wpAny _ _ (isTrue (Expr.BoolOp _ _ _) _ _) _ _ _)); (((fail_if_success (with_reducible show wpAny _ _ (call (Value.ref _) _) _ _ _)); (fail_if_success (with_reducible show wpAny _ _ (exec (Stmt.While _ _ _ _) _) _ _ _)))))); (first | (k_unfold; (try dsimp only)) | (k_end; wrow_close) | walk1 | (dsimp only; walk1) | (leave1; walk_say "STEP leave1"; try dsimp only) | fail "no step")))
    (rename Fr _ _ _ _ => F9); (rename News _ _ _ _ => N9)
    with_unfolding_all exact RetB.fin F9 N9 _ (fun p hp => hp) (RLL.mk (.head _) (by rw [levels_eq how str bw ws hs]; exact hR.mono fun p hp => .tail _ (.tail _ hp)))
end

section
theorem top_off_PL : True := by
  w_top off
  exact trivial
def GoodE (e : Elem) : Prop := (0 ≤ e.1 ∧ e.1 ≤ 70000) ∧ (0 ≤ e.2.1 ∧ e.2.1 ≤ 70000) ∧ (0 ≤ e.2.2.1 ∧ e.2.2.1 ≤ 70000)
def GoodR (e : Row) : Prop := (0 ≤ e.1 ∧ e.1 ≤ 70000) ∧ (0 ≤ e.2.1 ∧ e.2.1 ≤ 70000) ∧ (0 ≤ e.2.2.1 ∧ e.2.2.1 ≤ 70000) ∧ (0 ≤ e.2.2.2 ∧ e.2.2.2 ≤ 70000)
theorem elemOf_good (n : Int) : GoodE (elemOf n) := by
  have b : ∀ (x m : Int), 0 < m → 0 ≤ x.fmod m ∧ x.fmod m < m := fun x m h => ⟨Int.fmod_nonneg_of_pos x h, Int.fmod_lt_of_pos x h⟩
  have a1 := b (n.fdiv 7) 5 (by decide)
  have a2 := b ((n.fdiv 7).fdiv 5) 2 (by decide)
  have a3 := b (n.fdiv 7) 2 (by decide)
  have a4 := b ((n.fdiv 7).fdiv 2) 3 (by decide)
  have a5 := b (n.fdiv 7) 3 (by decide)
  unfold elemOf GoodE
  dsimp only
  repeat' split
  all_goals (dsimp only; omega)
theorem foldl_same {α β : Type} {f g : β → α → β} : ∀ (l : List α) (b : β), (∀ a ∈ l, ∀ b, f b a = g b a) → l.foldl f b = l.foldl g b
  | [], _, _ => rfl
  | a :: l, b, h => by rw [List.foldl_cons, List.foldl_cons, h a (.head _), foldl_same l _ fun x hx => h x (.tail _ hx)]
theorem lw_ni : ∀ (es : List Elem) (st : Bool × List Row), es.foldl (lwStep .ni) st = (st.1, st.2 ++ es.map niRow)
  | [], st => by simp
  | e :: es, st => by rw [List.foldl_cons, lw_ni es]; simp [lwStep, niRow]
theorem lw_bl (e : Elem) (he : GoodE e) (st : Bool × List Row) : lwStep .bl st e = blkStep 65535 st e := by
  obtain ⟨p, s, t, v⟩ := e
  obtain ⟨b, acc⟩ := st
  obtain ⟨⟨p0, _⟩, ⟨s0, _⟩, ⟨t0, _⟩⟩ := he
  dsimp only at p0 s0 t0
  by_cases h1 : p = 0
  · subst h1
    cases b
    · by_cases h2 : s = 0 ∧ t = 0
      · obtain ⟨rfl, rfl⟩ := h2
        cases v <;> rfl
      · have hf : (0 : Int) < s + t := by omega
        have hc : ¬ (s = 0 ∧ t = 0 ∧ (0 : Int) = 0) := fun h => h2 ⟨h.1, h.2.1⟩
        cases v <;> simp [lwStep, blkStep, hf, h2]
    · cases v <;> simp [lwStep, blkStep]
  · have hp : p > 0 := by omega
    have hs : p + s + t > 0 := by omega
    cases v <;> simp [lwStep, blkStep, h1, hp, hs]
theorem lw_sh1 (e : Elem) (he : GoodE e) (st : Bool × List Row) : lwStep .sh st e = shfStep 65535 st e := by
  obtain ⟨p, s, t, v⟩ := e
  obtain ⟨b, acc⟩ := st
  obtain ⟨⟨p0, _⟩, ⟨s0, _⟩, ⟨t0, _⟩⟩ := he
  dsimp only at p0 s0 t0
  by_cases h1 : p = 0
  · subst h1
    cases b
    · by_cases h2 : s = 0 ∧ t = 0
      · obtain ⟨rfl, rfl⟩ := h2
        cases v <;> rfl
      · have hf : (0 : Int) < s + t := by omega
        cases v <;> simp [lwStep, shfStep, hf, h2]
    · cases v <;> simp [lwStep, shfStep]
  · have hp : p > 0 := by omega
    have hs : p + s + t > 0 := by omega
    cases v <;> simp [lwStep, shfStep, h1, hp, hs]
theorem lw_sh (how : How) (hh : how = .sh ∨ how = .st) (e : Elem) (he : GoodE e) (st : Bool × List Row) : lwStep how st e = shfStep 65535 st e := by
  rcases hh with rfl | rfl
  · exact lw_sh1 e he st
  · exact (show lwStep .st st e = lwStep .sh st e from rfl).trans (lw_sh1 e he st)
theorem lw_eq (how : How) (es : List Elem) (h : ∀ e ∈ es, GoodE e) : lweighed how es = weightedS how es := by
  cases how
  · simp only [lweighed, weightedS, lw_ni]; simp
  · exact congrArg Prod.snd (foldl_same es _ fun e he st => lw_bl e (h e he) st)
  · exact congrArg Prod.snd (foldl_same es _ fun e he st => lw_sh _ (.inl rfl) e (h e he) st)
  · exact congrArg Prod.snd (foldl_same es _ fun e he st => lw_sh _ (.inr rfl) e (h e he) st)
theorem lwStep_good (how : How) (e : Elem) (he : GoodE e) (st : Bool × List Row) (hs : ∀ r ∈ st.2, GoodR r) : ∀ r ∈ (lwStep how st e).2, GoodR r := by
  have key : ∃ x, (lwStep how st e).2 = st.2 ++ [x] ∧ GoodR x := by
    obtain ⟨p, s, t, v⟩ := e
    unfold GoodE at he; dsimp only at he
    unfold lwStep
    cases how <;> dsimp only <;> (repeat' split) <;> exact ⟨_, rfl, by unfold GoodR; dsimp only; omega⟩
  obtain ⟨x, e1, hx⟩ := key
  rw [e1]
  intro r hr
  rcases List.mem_append.mp hr with hr | hr
  · exact hs r hr
  · rw [List.mem_singleton.mp hr]; exact hx
theorem lw_good (how : How) : ∀ (es : List Elem) (st : Bool × List Row), (∀ e ∈ es, GoodE e) → (∀ r ∈ st.2, GoodR r) → ∀ r ∈ (es.foldl (lwStep how) st).2, GoodR r
  | [], _, _, hs => hs
  | e :: es, st, h, hs => lw_good how es _ (fun x hx => h x (.tail _ hx)) (lwStep_good how e (h e (.head _)) st hs)
theorem weighted_good (how : How) (es : List Elem) (h : ∀ e ∈ es, GoodE e) : ∀ r ∈ weightedS how es, GoodR r := by
  rw [← lw_eq how es h]; exact lw_good how es _ h (fun _ hr => nomatch hr)
theorem weighted_len (how : How) (es : List Elem) (h : ∀ e ∈ es, GoodE e) : (weightedS how es).length = es.length := by
  rw [← lw_eq how es h, lweighed, lw_len]; simp
theorem GoodR.pos {e : Row} (h : GoodR e) : RowPos e := ⟨h.1.1, h.2.1.1, h.2.2.1.1, h.2.2.2.1⟩
def Ent (l : List Int) : Prop := ∀ x ∈ l, 1 ≤ x ∧ x ≤ 70000
theorem nz_ent {ws : List Row} {f : Row → Int} (h : ∀ r ∈ ws, 0 ≤ f r ∧ f r ≤ 70000) : Ent (nz (ws.map f)) := by
  intro x hx
  obtain ⟨h1, h2⟩ := List.mem_filter.mp hx
  obtain ⟨r, hr, rfl⟩ := List.mem_map.mp h1
  have := h r hr
  have := of_decide_eq_true h2
  omega
theorem nz_len' (ws : List Row) (f : Row → Int) : (nz (ws.map f)).length ≤ ws.length := by have := nz_len (ws.map f); rwa [List.length_map] at this
theorem trim_sub (l : List Int) : (∀ x ∈ trimR l, x ∈ l) ∧ (trimR l).length ≤ l.length := by
  have := List.dropWhile_sublist (fun x => decide (x = (65535 : Int))) (l := l.reverse)
  constructor
  · intro x hx
    exact List.mem_reverse.mp (this.subset (List.mem_reverse.mp hx))
  · have := this.length_le
    rw [List.length_reverse] at this
    rwa [trimR, List.length_reverse]
theorem lev_one (how : How) (bw : Bool) (ws : List Row) (h : ∀ r ∈ ws, GoodR r) : (Ent (lev1 ws) ∧ (lev1 ws).length ≤ ws.length) ∧ (Ent (lev2 bw ws) ∧ (lev2 bw ws).length ≤ ws.length) ∧ (Ent (lev3 ws) ∧ (lev3 ws).length ≤ ws.length) ∧ (Ent (fourthS how ws) ∧ (fourthS how ws).length ≤ ws.length) := by
  have h4 := nz_ent (ws := ws) (f := (·.2.2.2)) fun r hr => (h r hr).2.2.2
  have l4 := nz_len' ws (·.2.2.2)
  have tr := trim_sub (nz (ws.map (·.2.2.2)))
  refine ⟨⟨nz_ent fun r hr => (h r hr).1, nz_len' ws _⟩, ?_, ⟨nz_ent fun r hr => (h r hr).2.2.1, nz_len' ws _⟩, ?_⟩
  · have h2 := nz_ent (ws := ws) (f := (·.2.1)) fun r hr => (h r hr).2.1
    unfold lev2
    cases bw
    · exact ⟨h2, nz_len' ws _⟩
    · exact ⟨fun x hx => h2 x (by simpa using hx), by simpa using nz_len' ws (·.2.1)⟩
  · cases how
    · exact ⟨h4, l4⟩
    · exact ⟨h4, l4⟩
    · exact ⟨h4, l4⟩
    · exact ⟨fun x hx => h4 x (tr.1 x hx), Nat.le_trans tr.2 l4⟩
theorem lev_good (how : How) (str : Int) (bw : Bool) (ws : List Row) (h : ∀ r ∈ ws, GoodR r) : ∀ l ∈ levelsS how str bw ws, Ent l ∧ l.length ≤ ws.length := by
  obtain ⟨a1, a2, a3, a4⟩ := lev_one how bw ws h
  intro l hl
  simp only [levelsS, List.mem_cons, List.mem_append] at hl
  rcases hl with rfl | hl | hl | hl
  · exact a1
  · split at hl
    · rw [List.mem_singleton.mp hl]; exact a2
    · cases hl
  · split at hl
    · rw [List.mem_singleton.mp hl]; exact a3
    · cases hl
  · split at hl
    · rw [List.mem_singleton.mp hl]; exact a4
    · cases hl
theorem lev_num (how : How) (str : Int) (bw : Bool) (ws : List Row) (hs : 1 ≤ str ∧ str ≤ 4) : (levelsS how str bw ws).length = str.toNat := by
  rw [levels_eq how str bw ws hs]; simp
theorem lev_54 (how : How) (bw : Bool) (ws : List Row) : levelsS how 5 bw ws = levelsS how 4 bw ws := rfl
theorem spl_run : ∀ (l : List Int) (st : List (List Int) × List Int), Ent l → l.foldl splStep st = (st.1, st.2 ++ l)
  | [], st, _ => by simp
  | x :: l, st, h => by
    have hx := h x (.head _)
    rw [List.foldl_cons, spl_run l _ fun y hy => h y (.tail _ hy), splStep, if_neg (by omega)]
    simp
theorem spl_key (ls : List (List Int)) (l : List Int) (hl : Ent l) (h : ∀ x ∈ ls, Ent x) : ∀ (A : List (List Int)), (ls.foldl (fun f x => f ++ [0] ++ x) l).foldl splStep (A, []) = (let r := A ++ (l :: ls); (r.dropLast, r.getLast?.getD [])) := by
  suffices hh : ∀ (ls : List (List Int)) (pre : List Int) (B : List (List Int)) (A : List (List Int)) (l : List Int), (∀ x ∈ ls, Ent x) → pre.foldl splStep (A, []) = (B, l) → ∃ C c, (ls.foldl (fun f x => f ++ [0] ++ x) pre).foldl splStep (A, []) = (C, c) ∧ C ++ [c] = B ++ (l :: ls) by
    intro A
    obtain ⟨C, c, e1, e2⟩ := hh ls l A A l h (by rw [spl_run l _ hl]; rfl)
    rw [e1]
    dsimp only
    rw [← e2]
    simp
  intro ls
  induction ls with
  | nil => intro pre B A l _ e; exact ⟨B, l, e, rfl⟩
  | cons x ls ih =>
    intro pre B A l hx e
    rw [List.foldl_cons]
    obtain ⟨C, c, e1, e2⟩ := ih (pre ++ [0] ++ x) (B ++ [l]) A x (fun y hy => hx y (.tail _ hy)) (by
      rw [List.foldl_append, List.foldl_append, e]
      rw [spl_run x _ (hx x (.head _))]
      simp [splStep])
    exact ⟨C, c, e1, by rw [e2]; simp⟩
theorem split_key (L : List (List Int)) (hn : L ≠ []) (h : ∀ l ∈ L, Ent l) : splitS (keyS L) = L := by
  cases L with
  | nil => exact absurd rfl hn
  | cons l ls =>
    unfold splitS keyS
    rw [spl_key ls l (h l (.head _)) (fun x hx => h x (.tail _ hx)) []]
    dsimp only
    rw [List.nil_append]
    have := List.dropLast_concat_getLast (l := l :: ls) (by simp)
    rw [List.getLast?_eq_some_getLast (by simp : l :: ls ≠ [])]
    exact this
theorem key_cons : ∀ (ls : List (List Int)) (l : List Int), keyS (l :: ls) = l ++ ls.flatMap (fun x => 0 :: x) := by
  intro ls l
  unfold keyS
  dsimp only
  induction ls generalizing l with
  | nil => simp
  | cons x ls ih => rw [List.foldl_cons, ih]; simp
theorem cmpS_self : ∀ (a : List Int), cmpS a a = 0
  | [] => rfl
  | x :: a => by rw [cmpS, if_pos rfl, cmpS_self a]
theorem cmpS_pre : ∀ (a b c : List Int), cmpS (a ++ b) (a ++ c) = cmpS b c
  | [], _, _ => rfl
  | x :: a, b, c => by rw [List.cons_append, List.cons_append, cmpS, if_pos rfl, cmpS_pre a]
theorem cmpS_app : ∀ (a b r r' : List Int), Ent a → Ent b → ((r = [] ∧ r' = []) ∨ ∃ u u', r = 0 :: u ∧ r' = 0 :: u') → cmpS (a ++ r) (b ++ r') = if cmpS a b = 0 then cmpS r r' else cmpS a b
  | [], [], r, r', _, _, _ => by simp [cmpS]
  | [], y :: b, r, r', _, hb, hr => by
    have hy := hb y (.head _)
    rcases hr with ⟨rfl, rfl⟩ | ⟨u, u', rfl, rfl⟩
    · simp [cmpS]
    · simp only [List.nil_append, List.cons_append, cmpS]; rw [if_neg (by omega), if_pos (by omega)]; rfl
  | x :: a, [], r, r', ha, _, hr => by
    have hy := ha x (.head _)
    rcases hr with ⟨rfl, rfl⟩ | ⟨u, u', rfl, rfl⟩
    · simp [cmpS]
    · simp only [List.nil_append, List.cons_append, cmpS]; rw [if_neg (by omega), if_neg (by omega)]; rfl
  | x :: a, y :: b, r, r', ha, hb, hr => by
    rw [List.cons_append, List.cons_append, cmpS, cmpS]
    by_cases h : x = y
    · rw [if_pos h, if_pos h]; exact cmpS_app a b r r' (fun z hz => ha z (.tail _ hz)) (fun z hz => hb z (.tail _ hz)) hr
    · rw [if_neg h, if_neg h]; by_cases h2 : x < y <;> simp [h2]
theorem cmp_key (L M : List (List Int)) (hl : ∀ l ∈ L, Ent l) (hm : ∀ l ∈ M, Ent l) (hn : L.length = M.length) : cmpS (keyS L) (keyS M) = cmpLv L M := by
  cases L with
  | nil => cases M with
    | nil => rfl
    | cons m ms => simp at hn
  | cons l ls => cases M with
    | nil => simp at hn
    | cons m ms =>
      rw [key_cons, key_cons]
      induction ls generalizing l m ms with
      | nil =>
        have : ms = [] := by cases ms with | nil => rfl | cons _ _ => simp at hn
        subst this
        rw [List.flatMap_nil, List.append_nil, List.append_nil, cmpLv]
        by_cases h : cmpS l m = 0
        · rw [if_pos h, h]; rfl
        · rw [if_neg h]
      | cons x ls ih =>
        cases ms with
        | nil => simp at hn
        | cons y ms =>
          rw [List.flatMap_cons, List.flatMap_cons, List.cons_append, List.cons_append, cmpS_app l m _ _ (hl l (.head _)) (hm m (.head _)) (.inr ⟨_, _, rfl, rfl⟩), cmpLv]
          have := ih x (fun z hz => hl z (.tail _ hz)) y ms (fun z hz => hm z (.tail _ hz)) (by simpa using hn)
          rw [← this]
          by_cases h : cmpS l m = 0
          · rw [if_pos h, if_pos h, cmpS, if_pos rfl]
          · rw [if_neg h, if_neg h]
theorem cmp_oct1 (x y : Int) (a b : List Int) (hx : 0 ≤ x ∧ x ≤ 70000) (hy : 0 ≤ y ∧ y ≤ 70000) (hne : x ≠ y) : cmpS (oct x ++ a) (oct y ++ b) = if x < y then -1 else 1 := by
  have z : ∀ w : Int, 0 ≤ w ∧ w ≤ 70000 → w / 2 ^ 32 % 256 = 0 ∧ w / 2 ^ 24 % 256 = 0 := fun w h => by omega
  unfold oct
  by_cases h1 : x < 65535 <;> by_cases h2 : y < 65535
  · rw [if_pos h1, if_pos h2]
    simp only [List.cons_append, List.nil_append, cmpS]
    by_cases e : x / 256 = y / 256
    · rw [if_pos e, if_neg (by omega)]
      by_cases l : x < y
      · rw [if_pos l, if_pos (by omega)]
      · rw [if_neg l, if_neg (by omega)]
    · rw [if_neg e]
      by_cases l : x < y
      · rw [if_pos l, if_pos (by omega)]
      · rw [if_neg l, if_neg (by omega)]
  · rw [if_pos h1, if_neg h2, if_pos (show x < y by omega)]
    simp only [List.cons_append, List.nil_append, cmpS]
    by_cases e : x / 256 = 255
    · rw [if_pos e, if_neg (by omega), if_pos (by omega)]
    · rw [if_neg e, if_pos (by omega)]
  · rw [if_neg h1, if_pos h2, if_neg (show ¬ x < y by omega)]
    simp only [List.cons_append, List.nil_append, cmpS]
    by_cases e : y / 256 = 255
    · rw [if_pos e.symm, if_neg (by omega), if_neg (by omega)]
    · rw [if_neg (by omega), if_neg (by omega)]
  · rw [if_neg h1, if_neg h2]
    simp only [List.cons_append, List.nil_append, cmpS, (z x hx).1, (z x hx).2, (z y hy).1, (z y hy).2, if_true]
    by_cases e : x / 2 ^ 16 % 256 = y / 2 ^ 16 % 256
    · rw [if_pos e]
      by_cases e2 : x / 2 ^ 8 % 256 = y / 2 ^ 8 % 256
      · rw [if_pos e2, if_neg (by omega)]
        by_cases l : x < y
        · rw [if_pos l, if_pos (by omega)]
        · rw [if_neg l, if_neg (by omega)]
      · rw [if_neg e2]
        by_cases l : x < y
        · rw [if_pos l, if_pos (by omega)]
        · rw [if_neg l, if_neg (by omega)]
    · rw [if_neg e]
      by_cases l : x < y
      · rw [if_pos l, if_pos (by omega)]
      · rw [if_neg l, if_neg (by omega)]
theorem oct_cons (x : Int) : ∃ y l, oct x = y :: l := by unfold oct; split <;> exact ⟨_, _, rfl⟩
theorem cmp_oct : ∀ (a b : List Int), (∀ x ∈ a, 0 ≤ x ∧ x ≤ 70000) → (∀ x ∈ b, 0 ≤ x ∧ x ≤ 70000) → cmpS (octS a) (octS b) = cmpS a b
  | [], [], _, _ => rfl
  | [], y :: b, _, _ => by obtain ⟨z, l, e⟩ := oct_cons y; simp [octS, e, cmpS]
  | x :: a, [], _, _ => by obtain ⟨z, l, e⟩ := oct_cons x; simp [octS, e, cmpS]
  | x :: a, y :: b, ha, hb => by
    have ih := cmp_oct a b (fun z hz => ha z (.tail _ hz)) (fun z hz => hb z (.tail _ hz))
    simp only [octS, List.flatMap_cons] at ih ⊢
    rw [cmpS]
    by_cases h : x = y
    · subst h; rw [if_pos rfl, cmpS_pre, ih]
    · rw [if_neg h, cmp_oct1 x y _ _ (ha x (.head _)) (hb y (.head _)) h]
def octN (w : Int) : Int := if w < 65535 then 2 else 7
theorem oct_sum : ∀ (key : List Int) (n : Int), (key.map octN).foldl (· + ·) n = n + (octS key).length
  | [], n => by simp [octS]
  | x :: key, n => by
    rw [List.map_cons, List.foldl_cons, oct_sum key]
    have : ((oct x).length : Int) = octN x := by unfold oct octN; split <;> rfl
    simp only [octS, List.flatMap_cons, List.length_append] at *
    omega
theorem cmp_map (f : Int → Int) (hf : ∀ x y, (x = y ↔ f x = f y) ∧ (x < y ↔ f x < f y)) : ∀ (a b : List Int), cmpS (a.map f) (b.map f) = cmpS a b
  | [], [] => rfl
  | [], _ :: _ => rfl
  | _ :: _, [] => rfl
  | x :: a, y :: b => by
    rw [List.map_cons, List.map_cons, cmpS, cmpS, cmp_map f hf a b]
    by_cases h : x = y
    · rw [if_pos h, if_pos ((hf x y).1.mp h)]
    · rw [if_neg h, if_neg (fun e => h ((hf x y).1.mpr e))]
      by_cases l : x < y
      · rw [if_pos l, if_pos ((hf x y).2.mp l)]
      · rw [if_neg l, if_neg (fun e => l ((hf x y).2.mpr e))]
theorem cmp_plain (K a b : List Int) : cmpS (K ++ 0 :: a.map (· + 2)) (K ++ 0 :: b.map (· + 2)) = cmpS a b := by
  rw [cmpS_pre, cmpS, if_pos rfl]
  exact cmp_map (· + 2) (fun x y => by constructor <;> constructor <;> intro h <;> omega) a b
theorem key_ent (L : List (List Int)) (h : ∀ l ∈ L, Ent l) : ∀ x ∈ keyS L, 0 ≤ x ∧ x ≤ 70000 := by
  cases L with
  | nil => intro x hx; cases hx
  | cons l ls =>
    intro x hx
    rw [key_cons, List.mem_append, List.mem_flatMap] at hx
    rcases hx with hx | ⟨m, hm, hx⟩
    · have := h l (.head _) x hx; omega
    · rcases List.mem_cons.mp hx with rfl | hx
      · omega
      · have := h m (.tail _ hm) x hx; omega
def mrow (k : Nat) : List (List (List Int)) → List Int
  | [] => []
  | L :: Ls => L.getD k [] ++ Ls.flatMap (fun M => 1 :: M.getD k [])
def mergedN (Ls : List (List (List Int))) : Nat → List Int
  | 0 => []
  | n + 1 => mergedN Ls n ++ (if n = 0 then [] else [0]) ++ mrow n Ls
theorem mrow_snoc (k : Nat) (Ls : List (List (List Int))) (M : List (List Int)) : mrow k (Ls ++ [M]) = mrow k Ls ++ (if Ls = [] then [] else [1]) ++ M.getD k [] := by
  cases Ls with
  | nil => simp [mrow]
  | cons L Ls => simp [mrow]
theorem merged_one (L : List (List Int)) : ∀ n, n ≤ L.length → mergedN [L] n = keyS (L.take n)
  | 0, _ => by simp [mergedN, keyS]
  | n + 1, h => by
    rw [mergedN, merged_one L n (by omega)]
    have e : L[n]? = some L[n] := List.getElem?_eq_getElem (by omega)
    rw [List.take_add_one, e, Option.toList_some, key_snoc]
    simp only [mrow, List.flatMap_nil, List.append_nil, List.getD_eq_getElem?_getD, e, Option.getD_some]
    by_cases hn : n = 0
    · subst hn; simp [keyS]
    · rw [if_neg hn, if_neg (by intro h2; have h3 := congrArg List.length h2; rw [List.length_take, List.length_nil] at h3; omega)]
      simp
theorem merged_len (Ls : List (List (List Int))) (h : ∀ L ∈ Ls, ∀ l ∈ L, l.length ≤ 100) : ∀ n, (mergedN Ls n).length ≤ (1 + 101 * Ls.length) * n
  | 0 => by simp [mergedN]
  | n + 1 => by
    have ih := merged_len Ls h n
    have g : ∀ L ∈ Ls, (L.getD n []).length ≤ 100 := fun L hL => by
      rw [List.getD_eq_getElem?_getD]
      cases e : L[n]? with
      | none => simp
      | some l => exact h L hL l (List.mem_of_getElem? e)
    have r : (mrow n Ls).length ≤ 101 * Ls.length := by
      cases Ls with
      | nil => simp [mrow]
      | cons L Ls =>
        have q : ∀ Ls : List (List (List Int)), (∀ L ∈ Ls, (L.getD n []).length ≤ 100) → (Ls.flatMap (fun M => 1 :: M.getD n [])).length ≤ 101 * Ls.length := by
          intro Ls
          induction Ls with
          | nil => intro _; simp
          | cons M Ls ih2 =>
            intro hh
            have a1 := hh M (.head _)
            have a2 := ih2 fun L hL => hh L (.tail _ hL)
            simp only [List.flatMap_cons, List.length_append, List.length_cons] at a2 ⊢
            omega
        have a1 := g L (.head _)
        have a2 := q Ls fun L hL => g L (.tail _ hL)
        simp only [mrow, List.length_append, List.length_cons] at a1 a2 ⊢
        omega
    rw [mergedN, List.length_append, List.length_append]
    have : (if n = 0 then ([] : List Int) else [0]).length ≤ 1 := by split <;> simp
    rw [Nat.mul_add, Nat.mul_one]
    omega
end

section
theorem top_off_C18 : True := by
  w_top off
  exact trivial
local macro_rules | `(tactic| walk_at "subscriptTail Name Name ref int") => `(tactic| (k_here; (with_unfolding_all refine' list_at ?l ?k ?h1 ?h2 ?_ ?hs; (case l => exact isList_at (by k_asm) (by assumption)); (case k => exact .inl ⟨by omega, by assumption⟩); (case h1 => omega); (case h2 => omega); (case hs => with_unfolding_all rfl))))
@[reducible] def LmJ (Ls : List (List (List Int))) : Nat → List (Str × Value) → List (Addr × Obj) → Prop :=
  fun i ps nx => ∃ E us m, ps = [((Str.ofString "found"), .ref E)] ∧ nx = [(E, listOf (List.toArray us) m)] ∧ IntsAre us (mergedN Ls i)
set_option maxHeartbeats 16000000 in
theorem con_lmerged (Ls : List (List (List Int))) (n : Nat) (hL : 1 ≤ Ls.length ∧ Ls.length ≤ 10) (hn : n ≤ 4) (hLs : ∀ L ∈ Ls, L.length = n ∧ ∀ l ∈ L, l.length ≤ 100) : Con 183 1 (fun h vs => ∃ v, vs = [v] ∧ Rd h v (.list (Ls.map llP))) (fun tl r => Rf tl r (lP (mergedN Ls n))) := by
  unfold Con; k_fill
  intro w mean mg mb dp un gd cn cs a ccd cl outer A₀ base h₀ L m news s vs Q E B F X N T hk hP hd hu hret
  obtain ⟨v0, rfl, hP⟩ := hP
  refine wpAny_call ?_
  k_dflt (refine' code_defB (binds := [((Str.ofString "all_levels"), v0)]) ?k1 ?k2 ?k3 ?k5 ?kA ?kF ?kK ?k6 ?k7 ?k8 ?k9 ?kB ?_ ?c2 ?c3 ?c4 ?c5; (case kA => exact rfl); (case kF => exact rfl); (case kK => assumption); (case k1 => k_asm); (case k2 => k_asm); (case k3 => k_asm); (case k5 => k_asm); (case k6 => k_is); (case k7 => k_is); (case k8 => first | exact room_0 hd | (dsimp only [ktrTop]; omega)); (case k9 => first | exact BindsTo.of_eq rfl | exact binds_K (by k_in) rfl (by k_is) rfl rfl rfl); (case c5 => decide); (case kB => exact locs rfl); (case c2 => exact rfl); (case c3 => exact rfl); (case c4 => exact rfl); k_whole)
  intro g L' h₁ eg F' N' B' X' T'
  refine wpAny_mono (E := fun _ _ => False) (Q := fun fl s' => RetB g L' s (fun tl r => Rf tl r (lP (mergedN Ls n))) (match fl with | .ret v => v | _ => .none) s') ?_ (fun fl s' h => RetB.back eg F N hret h) (fun _ _ h => False.elim h)
  clear hret F N X T B
  dsimp only [List.reverse_cons, List.reverse_nil, List.nil_append, List.cons_append, List.reverse, List.reverseAux] at F'
  (try rw [← eg] at hP); clear eg
  obtain ⟨l, vs, rfl, hl, hlen, hget⟩ := rd_list hP
  clear hP
  rw [List.length_map] at hlen
  cases vs with
  | nil => simp at hlen; omega
  | cons v1 vs =>
  obtain ⟨d0, hd0, hr0⟩ := hget 0 v1 rfl
  obtain ⟨L0, hL0, rfl⟩ : ∃ L, Ls[0]? = some L ∧ llP L = d0 := by simpa using hd0
  have hn0 := (hLs L0 (List.mem_of_getElem? hL0)).1
  obtain ⟨la, va, rfl, hla, hlena, hgeta⟩ := rd_list hr0
  rw [List.length_map, hn0] at hlena
  clear hd0 hr0
  (with_reducible show wpAny _ _ _ _ _ _); (try k_fold)
  (repeat' ((((fail_if_success (with_reducible show wpAny _ _ (isTrue (Expr.BoolOp _ _ _) _ _) _ _ _)); (((fail_if_success (with_reducible show wpAny _ _ (call (Value.ref _) _) _ _ _)); (fail_if_success (with_reducible show wpAny _ _ (exec (Stmt.While _ _ _ _) _) _ _ _)))))); (first | (k_unfold; (try dsimp only)) | (k_end; wrow_close) | walk1 | (dsimp only; walk1) | (leave1; walk_say "STEP leave1"; try dsimp only) | fail "no step")))
  (rename Fr _ _ _ _ => lF); (rename News _ _ _ _ => lN)
  with_unfolding_all refine call_len_list (isList_in hla _ lF.keep (List.forall_mem_nil _)) (by rw [List.size_toArray, hlena]; omega) ?_
  simp only [List.size_toArray, hlena]
  (repeat' ((((fail_if_success (with_reducible show wpAny _ _ (isTrue (Expr.BoolOp _ _ _) _ _) _ _ _)); (((fail_if_success (with_reducible show wpAny _ _ (call (Value.ref _) _) _ _ _)); (fail_if_success (with_reducible show wpAny _ _ (exec (Stmt.While _ _ _ _) _) _ _ _)))))); (first | (k_unfold; (try dsimp only)) | (k_end; wrow_close) | walk1 | (dsimp only; walk1) | (leave1; walk_say "STEP leave1"; try dsimp only) | fail "no step")))
  (rename IsRange _ _ _ _ _ _ _ _ => lR)
  (try clear lF lN)
  (rename Fr _ _ _ _ => lF); (rename News _ _ _ _ => lN)
  with_unfolding_all refine for_stR (n := n) [(_, listOf #[] 0)] (LmJ Ls) [((Str.ofString "found"), .ref _)] [(Str.ofString "k"), (Str.ofString "j"), (Str.ofString "levels")] rfl lF lN (fun p hp => hp) lR ?_ ?_ ⟨_, [], 0, rfl, rfl, .nil⟩ (by kst_all) ?_ ?_
  · exact small_one (by omega) (by omega) (by omega) (by omega)
  · rw [rangeSize_nat]; omega
  · clear lF lN lR
    intro i t ps u nx h tk own hi ho hp9a F₁ N₁
    ((try with_reducible show wpAny _ _ _ _ _ _); (try k_fold))
    obtain ⟨E, us, m, rfl, rfl, hIu⟩ := hp9a
    change Fr g L' h _ at F₁; change News g L' h _ at N₁
    have hul : us.length ≤ 5000 := by
      have := merged_len Ls (fun L hL => (hLs L hL).2) i
      rw [hIu.length]
      have h1 : (1 + 101 * Ls.length) * i ≤ 1011 * 4 := Nat.mul_le_mul (by omega) (by omega)
      omega
    have hiz : ∀ {a : Nat}, ((0 : Int) + (a : Int) = 0) = (a = 0) := fun {a} => by rw [Int.zero_add]; exact propext Int.natCast_eq_zero
    have hoE : ∀ p ∈ own, p.1 ≠ E := fun p hp => ho p hp E (by simp)
    (with_reducible show wpAny _ _ _ _ _ _); (try k_fold)
    (repeat' ((fail_if_success (with_reducible show wpAny _ _ (binaryOp _ (Value.ref _) (Value.ref _)) _ _ _)); (fail_if_success (with_reducible show wpAny _ _ (call (Value.type "enumerate") _) _ _ _)); (((fail_if_success (with_reducible show wpAny _ _ (isTrue (Expr.BoolOp _ _ _) _ _) _ _ _)); (((fail_if_success (with_reducible show wpAny _ _ (call (Value.ref _) _) _ _ _)); (fail_if_success (with_reducible show wpAny _ _ (exec (Stmt.While _ _ _ _) _) _ _ _)))))); (first | (k_unfold; (try dsimp only)) | (k_end; wrow_close) | walk1 | (dsimp only; walk1) | (leave1; walk_say "STEP leave1"; try dsimp only) | fail "no step")))
    (rename Fr _ _ _ _ => F9); (rename News _ _ _ _ => N9); (rename IntsAre _ _ => hI9)
    rw [repl_bool (0 + (i : Int)) (0 : Int) (by omega) _ rfl] at hI9
    simp only [hiz] at hI9
    generalize (List.replicate _ [Value.int 0 _]).flatten = fl at *
    have hfl : fl.length ≤ 1 := by rw [hI9.length]; split <;> simp
    with_unfolding_all refine add_to F9 N9 (isListN N9 (by k_mem)) (isListN N9 (by k_mem)) (by first | exact fit100 (by assumption) | exact fit1000 (by assumption) | exact fit500 (by assumption) | (rw [sizeLine_eq]; omega)) fun h8 D8 F8 N8 l8 => ?_
    have hI8 := hIu.append hI9
    have hoD : ∀ p ∈ own, p.1 ≠ D8 := fun p hp => Nat.ne_of_lt (l8 p (by k_mem))
    have N7 := News.sub (b := (D8, listOf (List.toArray (us ++ fl)) 0) :: own) N8 (by (first | (walk_at "MY subB") | (walk_say "OLDSUB"; ((intro p hp; (try simp only [List.mem_cons, List.mem_append, List.cons_append, List.nil_append, List.append_nil, List.not_mem_nil, or_false, false_or, or_assoc] at hp ⊢); first | (simp only [hp, true_or, or_true]; done) | (revert hp; (repeat (first | (with_reducible show (_ ∨ _) → _; refine or_imp.mpr ⟨fun hp => (by simp only [hp, true_or, or_true]), ?_⟩) | fail "no more")); (intro hp; simp only [hp, true_or, or_true]; done)))))))
    clear N9 F9 N8 l8
    (repeat' ((fail_if_success (with_reducible show wpAny _ _ (binaryOp _ (Value.ref _) (Value.ref _)) _ _ _)); (fail_if_success (with_reducible show wpAny _ _ (call (Value.type "enumerate") _) _ _ _)); (((fail_if_success (with_reducible show wpAny _ _ (isTrue (Expr.BoolOp _ _ _) _ _) _ _ _)); (((fail_if_success (with_reducible show wpAny _ _ (call (Value.ref _) _) _ _ _)); (fail_if_success (with_reducible show wpAny _ _ (exec (Stmt.While _ _ _ _) _) _ _ _)))))); (first | (k_unfold; (try dsimp only)) | (k_end; wrow_close) | walk1 | (dsimp only; walk1) | (leave1; walk_say "STEP leave1"; try dsimp only) | fail "no step")))
    (rename Fr _ _ _ _ => F9); (rename News _ _ _ _ => N9)
    with_unfolding_all refine for_enum (vs := Value.ref la :: vs) ((D8, listOf (List.toArray (us ++ fl)) 0) :: own) [] (fun j ps nx => ∃ E us m, ps = [((Str.ofString "found"), .ref E)] ∧ nx = (E, listOf (List.toArray us) m) :: own ∧ IntsAre us (mergedN Ls i ++ (if i = 0 then [] else [0]) ++ mrow i (Ls.take j)) ∧ ∀ p ∈ own, p.1 ≠ E) [((Str.ofString "found"), .ref _)] [(Str.ofString "j"), (Str.ofString "levels")] rfl F9 N9 (by (first | (walk_at "MY subB") | (walk_say "OLDSUB"; ((intro p hp; (try simp only [List.mem_cons, List.mem_append, List.cons_append, List.nil_append, List.append_nil, List.not_mem_nil, or_false, false_or, or_assoc] at hp ⊢); first | (simp only [hp, true_or, or_true]; done) | (revert hp; (repeat (first | (with_reducible show (_ ∨ _) → _; refine or_imp.mpr ⟨fun hp => (by simp only [hp, true_or, or_true]), ?_⟩) | fail "no more")); (intro hp; simp only [hp, true_or, or_true]; done))))))) (.inl ⟨rfl, hl⟩) (news_ne N9 hl) ⟨_, _, _, rfl, rfl, (by simpa [mrow] using hI8), hoD⟩ (by kst_all) ?_ ?_
    · clear F9 N9 hI8 hIu hul hoE
      intro j v t2 T ps u2 nx h2 tk2 own2 hv hlo2 hof2 hp9a F₂ N₂ hT
      ((try with_reducible show wpAny _ _ _ _ _ _); (try k_fold))
      obtain ⟨E2, us2, m2, rfl, rfl, hIu2, hoE2⟩ := hp9a
      change Fr g L' h2 _ at F₂; change News g L' h2 _ at N₂; change IsTup h2 _ _ at hT
      obtain ⟨d, hd1, hd2⟩ := hget j v hv
      obtain ⟨Lj, hLj, rfl⟩ : ∃ L, Ls[j]? = some L ∧ llP L = d := by simpa using hd1
      obtain ⟨a2, w2, rfl, hl2, hln2, hg2⟩ := rd_list hd2
      have hLj2 := hLs Lj (List.mem_of_getElem? hLj)
      have hi2 : i < Lj.length := by rw [hLj2.1]; exact hi
      obtain ⟨x, hx⟩ : ∃ x, Lj[i]? = some x := ⟨_, List.getElem?_eq_getElem hi2⟩
      obtain ⟨v3, hv3⟩ : ∃ v3, w2[(0 + (i : Int)).toNat]? = some v3 := ⟨w2[i]'(by rw [hln2, List.length_map]; exact hi2), by rw [show (0 + (i : Int)).toNat = i by omega]; exact List.getElem?_eq_getElem _⟩
      have hi3 : (0 + (i : Int)).toNat = i := by omega
      obtain ⟨d3, hd3, hr3⟩ := hg2 i v3 (hi3 ▸ hv3)
      obtain rfl : lP x = d3 := by simpa [hx] using hd3
      obtain ⟨b3, w3, rfl, hl3, hI3⟩ := rd_ints hr3
      have hs1 := mrow_snoc i (Ls.take j) Lj
      rw [show Ls.take j ++ [Lj] = Ls.take (j + 1) by rw [List.take_add_one, hLj]; rfl] at hs1
      have hne : (Ls.take j = []) = (j = 0) := by
        have hjl : j < Ls.length := (List.getElem?_eq_some_iff.mp hLj).1
        rw [List.take_eq_nil_iff]; refine propext ⟨?_, .inl⟩
        rintro (e | e)
        · exact e
        · rw [e] at hjl; exact absurd hjl (Nat.not_lt_zero _)
      have hgd : Lj.getD i [] = x := by rw [List.getD_eq_getElem?_getD, hx]; rfl
      rw [hgd] at hs1
      have hxl : w3.length ≤ 100 := by rw [hI3.length]; exact hLj2.2 x (List.mem_of_getElem? hx)
      have hul : us2.length ≤ 12000 := by
        have h1 := merged_len Ls (fun L hL => (hLs L hL).2) i
        have h2 := merged_len (Ls.take j) (fun L hL => (hLs L (List.mem_of_mem_take hL)).2) (i + 1)
        have h3 : (1 + 101 * Ls.length) * i ≤ 1011 * 4 := Nat.mul_le_mul (by omega) (by omega)
        have h4 : (1 + 101 * (Ls.take j).length) * (i + 1) ≤ 1011 * 5 := Nat.mul_le_mul (by rw [List.length_take]; omega) (by omega)
        rw [mergedN, List.length_append] at h2
        have h5 : (if i = 0 then ([] : List Int) else [0]).length ≤ 1 := by split <;> simp
        rw [hIu2.length, List.length_append, List.length_append]
        omega
      clear hv hd1 hd2 hr3 hd3 hgd hlo2 hg2
      (with_reducible show wpAny _ _ _ _ _ _); (try k_fold)
      (repeat' ((fail_if_success (with_reducible show wpAny _ _ (binaryOp _ (Value.ref _) (Value.ref _)) _ _ _)); (fail_if_success (with_reducible show wpAny _ _ (call (Value.type "enumerate") _) _ _ _)); (((fail_if_success (with_reducible show wpAny _ _ (isTrue (Expr.BoolOp _ _ _) _ _) _ _ _)); (((fail_if_success (with_reducible show wpAny _ _ (call (Value.ref _) _) _ _ _)); (fail_if_success (with_reducible show wpAny _ _ (exec (Stmt.While _ _ _ _) _) _ _ _)))))); (first | (k_unfold; (try dsimp only)) | (k_end; wrow_close) | walk1 | (dsimp only; walk1) | (leave1; walk_say "STEP leave1"; try dsimp only) | fail "no step")))
      (rename Fr _ _ _ _ => F9); (rename News _ _ _ _ => N9); (rename IntsAre _ _ => hI9)
      rw [repl_bool (j : Int) (1 : Int) (by omega) _ rfl] at hI9
      simp only [Int.natCast_eq_zero] at hI9
      generalize (List.replicate _ [Value.int 1 _]).flatten = fl2 at *
      have hfl2 : fl2.length ≤ 1 := by rw [hI9.length]; split <;> simp
      with_unfolding_all refine add_to F9 N9 (isListN N9 (by k_mem)) (isListN N9 (by k_mem)) (by first | exact fit100 (by assumption) | exact fit1000 (by assumption) | exact fit500 (by assumption) | (rw [sizeLine_eq]; omega)) fun h8 D8 F8 N8 l8 => ?_
      have N7 := News.sub (b := (D8, listOf (List.toArray (us2 ++ fl2)) 0) :: (own ++ own2)) N8 (by (first | (walk_at "MY subB") | (walk_say "OLDSUB"; ((intro p hp; (try simp only [List.mem_cons, List.mem_append, List.cons_append, List.nil_append, List.append_nil, List.not_mem_nil, or_false, false_or, or_assoc] at hp ⊢); first | (simp only [hp, true_or, or_true]; done) | (revert hp; (repeat (first | (with_reducible show (_ ∨ _) → _; refine or_imp.mpr ⟨fun hp => (by simp only [hp, true_or, or_true]), ?_⟩) | fail "no more")); (intro hp; simp only [hp, true_or, or_true]; done)))))))
      clear N9 F9 N8 l8
      (repeat' ((fail_if_success (with_reducible show wpAny _ _ (binaryOp _ (Value.ref _) (Value.ref _)) _ _ _)); (fail_if_success (with_reducible show wpAny _ _ (call (Value.type "enumerate") _) _ _ _)); (((fail_if_success (with_reducible show wpAny _ _ (isTrue (Expr.BoolOp _ _ _) _ _) _ _ _)); (((fail_if_success (with_reducible show wpAny _ _ (call (Value.ref _) _) _ _ _)); (fail_if_success (with_reducible show wpAny _ _ (exec (Stmt.While _ _ _ _) _) _ _ _)))))); (first | (k_unfold; (try dsimp only)) | (k_end; wrow_close) | walk1 | (dsimp only; walk1) | (leave1; walk_say "STEP leave1"; try dsimp only) | fail "no step")))
      (rename Fr _ _ _ _ => F9); (rename News _ _ _ _ => N9)
      with_unfolding_all refine add_to F9 N9 (isListN N9 (by k_mem)) (isList_at F9 hl3) (by rw [sizeLine_eq, List.length_append]; omega) fun h7 D7 F7 N6 l7 => ?_
      have hI8 := (hIu2.append hI9).append hI3
      have hoD : ∀ p ∈ own ++ own2, p.1 ≠ D7 := fun p hp => Nat.ne_of_lt (l7 p (.tail _ hp))
      clear N9 F9
      (repeat' ((fail_if_success (with_reducible show wpAny _ _ (binaryOp _ (Value.ref _) (Value.ref _)) _ _ _)); (fail_if_success (with_reducible show wpAny _ _ (call (Value.type "enumerate") _) _ _ _)); (((fail_if_success (with_reducible show wpAny _ _ (isTrue (Expr.BoolOp _ _ _) _ _) _ _ _)); (((fail_if_success (with_reducible show wpAny _ _ (call (Value.ref _) _) _ _ _)); (fail_if_success (with_reducible show wpAny _ _ (exec (Stmt.While _ _ _ _) _) _ _ _)))))); (first | (k_unfold; (try dsimp only)) | (k_end; wrow_close) | walk1 | (dsimp only; walk1) | (leave1; walk_say "STEP leave1"; try dsimp only) | fail "no step")))
      (rename Fr _ _ _ _ => F9); (rename News _ _ _ _ => N9)
      with_unfolding_all refine StJ.end [((Str.ofString "found"), .ref D7)] ((D7, listOf (List.toArray ((us2 ++ fl2) ++ w3)) 0) :: own) F9 N9 (by (first | (walk_at "MY subB") | (walk_say "OLDSUB"; ((intro p hp; (try simp only [List.mem_cons, List.mem_append, List.cons_append, List.nil_append, List.append_nil, List.not_mem_nil, or_false, false_or, or_assoc] at hp ⊢); first | (simp only [hp, true_or, or_true]; done) | (revert hp; (repeat (first | (with_reducible show (_ ∨ _) → _; refine or_imp.mpr ⟨fun hp => (by simp only [hp, true_or, or_true]), ?_⟩) | fail "no more")); (intro hp; simp only [hp, true_or, or_true]; done))))))) (by (first | (walk_at "MY subB") | (walk_say "OLDSUB"; ((intro p hp; (try simp only [List.mem_cons, List.mem_append, List.cons_append, List.nil_append, List.append_nil, List.not_mem_nil, or_false, false_or, or_assoc] at hp ⊢); first | (simp only [hp, true_or, or_true]; done) | (revert hp; (repeat (first | (with_reducible show (_ ∨ _) → _; refine or_imp.mpr ⟨fun hp => (by simp only [hp, true_or, or_true]), ?_⟩) | fail "no more")); (intro hp; simp only [hp, true_or, or_true]; done))))))) ?_ ⟨D7, _, _, rfl, rfl, ?_, fun p hp => hoD p (List.mem_append.mpr (.inl hp))⟩ (by kst_all) (by (first | (intro z h2 h3; (try dsimp only at h2); (repeat (first | exact skc h3 | (with_reducible exact rfl) | (refine sk (ne_in h3 (by with_reducible first | exact nm_head | exact nm_tail nm_head | exact nm_tail (nm_tail nm_head) | exact nm_tail (nm_tail (nm_tail nm_head)) | exact nm_tail (nm_tail (nm_tail (nm_tail nm_head))) | exact nm_tail (nm_tail (nm_tail (nm_tail (nm_tail nm_head)))) | exact nm_tail (nm_tail (nm_tail (nm_tail (nm_tail (nm_tail nm_head))))) | exact nm_tail (nm_tail (nm_tail (nm_tail (nm_tail (nm_tail (nm_tail nm_head)))))) | exact nm_tail (nm_tail (nm_tail (nm_tail (nm_tail (nm_tail (nm_tail (nm_tail nm_head))))))))) ?_) | (refine sk (ne_h h2) ?_) | (refine sk (ne_h (ne_t h2)) ?_) | (refine sk (ne_h (ne_t (ne_t h2))) ?_) | fail "no name")); done) | (walk_say "OLDSAME"; (((try dsimp +zetaDelta only); intro z h2 h3; (try simp only [List.forall_mem_cons, List.not_mem_nil, false_implies, implies_true, and_true, ne_eq] at h2); (have h4 := h3); (simp only [List.contains_cons, List.contains_nil, Bool.or_false, Bool.or_eq_false_iff, beq_eq_false_iff_ne, ne_eq] at h3); ((simp only [kstB, h2, h3, h4, if_false, Bool.false_eq_true]) <;> rfl))))))
      · intro p hp
        exact List.forall_mem_cons.mpr ⟨hoD p (List.mem_append.mpr (.inr hp)), fun b hb => hof2 p hp b (List.mem_cons_of_mem _ hb)⟩
      · rw [hs1]
        simp only [hne]
        simpa only [List.append_assoc] using hI8
    · clear F9 N9 hI8 hIu hul hoE
      intro ps u2 nx h2 tk2 hp9a hnl F₂ N₂
      ((try with_reducible show wpAny _ _ _ _ _ _); (try k_fold))
      obtain ⟨E2, us2, m2, rfl, rfl, hIu2, hoE2⟩ := hp9a
      change Fr g L' h2 _ at F₂; change News g L' h2 _ at N₂
      rw [show Ls.take (Value.ref la :: vs).length = Ls by rw [hlen, List.take_length]] at hIu2
      (with_reducible show wpAny _ _ _ _ _ _); (try k_fold)
      (repeat' ((fail_if_success (with_reducible show wpAny _ _ (binaryOp _ (Value.ref _) (Value.ref _)) _ _ _)); (fail_if_success (with_reducible show wpAny _ _ (call (Value.type "enumerate") _) _ _ _)); (((fail_if_success (with_reducible show wpAny _ _ (isTrue (Expr.BoolOp _ _ _) _ _) _ _ _)); (((fail_if_success (with_reducible show wpAny _ _ (call (Value.ref _) _) _ _ _)); (fail_if_success (with_reducible show wpAny _ _ (exec (Stmt.While _ _ _ _) _) _ _ _)))))); (first | (k_unfold; (try dsimp only)) | (k_end; wrow_close) | walk1 | (dsimp only; walk1) | (leave1; walk_say "STEP leave1"; try dsimp only) | fail "no step")))
      (rename Fr _ _ _ _ => F9); (rename News _ _ _ _ => N9)
      with_unfolding_all refine StJ.end [((Str.ofString "found"), .ref E2)] [(E2, listOf (List.toArray us2) m2)] F9 N9 (by (first | (walk_at "MY subB") | (walk_say "OLDSUB"; ((intro p hp; (try simp only [List.mem_cons, List.mem_append, List.cons_append, List.nil_append, List.append_nil, List.not_mem_nil, or_false, false_or, or_assoc] at hp ⊢); first | (simp only [hp, true_or, or_true]; done) | (revert hp; (repeat (first | (with_reducible show (_ ∨ _) → _; refine or_imp.mpr ⟨fun hp => (by simp only [hp, true_or, or_true]), ?_⟩) | fail "no more")); (intro hp; simp only [hp, true_or, or_true]; done))))))) (by (first | (walk_at "MY subB") | (walk_say "OLDSUB"; ((intro p hp; (try simp only [List.mem_cons, List.mem_append, List.cons_append, List.nil_append, List.append_nil, List.not_mem_nil, or_false, false_or, or_assoc] at hp ⊢); first | (simp only [hp, true_or, or_true]; done) | (revert hp; (repeat (first | (with_reducible show (_ ∨ _) → _; refine or_imp.mpr ⟨fun hp => (by simp only [hp, true_or, or_true]), ?_⟩) | fail "no more")); (intro hp; simp only [hp, true_or, or_true]; done))))))) ?_ ⟨E2, _, _, rfl, rfl, hIu2⟩ (by kst_all) (by (((try dsimp +zetaDelta only); intro z h2 h3; (try simp only [List.forall_mem_cons, List.not_mem_nil, false_implies, implies_true, and_true, ne_eq] at h2); (simp only [List.contains_cons, List.contains_nil, Bool.or_false, Bool.or_eq_false_iff, beq_eq_false_iff_ne, ne_eq] at h3); (simp [kstB, h2, h3]))))
      exact fun p hp => List.forall_mem_cons.mpr ⟨hoE2 p hp, List.forall_mem_nil _⟩
  · clear lF lN lR
    intro ps u nx h tk hp9a F₁ N₁
    ((try with_reducible show wpAny _ _ _ _ _ _); (try k_fold))
    obtain ⟨E, us, m, rfl, rfl, hIu⟩ := hp9a
    change Fr g L' h _ at F₁; change News g L' h _ at N₁
    (with_reducible show wpAny _ _ _ _ _ _); (try k_fold)
    (repeat' ((((fail_if_success (with_reducible show wpAny _ _ (isTrue (Expr.BoolOp _ _ _) _ _) _ _ _)); (((fail_if_success (with_reducible show wpAny _ _ (call (Value.ref _) _) _ _ _)); (fail_if_success (with_reducible show wpAny _ _ (exec (Stmt.While _ _ _ _) _) _ _ _)))))); (first | (k_unfold; (try dsimp only)) | (k_end; wrow_close) | walk1 | (dsimp only; walk1) | (leave1; walk_say "STEP leave1"; try dsimp only) | fail "no step")))
    (rename Fr _ _ _ _ => F9); (rename News _ _ _ _ => N9)
    with_unfolding_all exact RetB.fin F9 N9 _ (fun p hp => hp) (Rf.list (.head _) (RfAll.ints hIu))
end

section
theorem top_off_C15 : True := by
  w_top off
  exact trivial
theorem names1 {g h : Heap} {L a : Addr} {oa : Obj} {tl : List (Addr × Obj)} (_ : News g L h ((a, oa) :: tl)) : ∃ A, A = a := ⟨a, rfl⟩
set_option maxHeartbeats 16000000 in
theorem con_merged (ks : List (List Int)) (n : Nat) (hK : ks.length ≤ 10) (hn : n ≤ 4) (hks : ∀ k ∈ ks, k.length ≤ 1000 ∧ (splitS k).length = n ∧ ∀ l ∈ splitS k, l.length ≤ 100) (hnil : ks = [] → n = 0) : Con 143 2 (fun h vs => ∃ v, vs = [v] ∧ Rd h v (.list (ks.map lP))) (fun tl r => RL tl r ((mergedN (ks.map splitS) n).map .int)) := by
  unfold Con; k_fill
  intro w mean mg mb dp un gd cn cs a ccd cl outer A₀ base h₀ L m news s vs Q E B F X N T hk hP hd hu hret
  obtain ⟨v0, rfl, hP⟩ := hP
  refine wpAny_call ?_
  k_dflt (refine' code_defB (binds := [((Str.ofString "keys"), v0)]) ?k1 ?k2 ?k3 ?k5 ?kA ?kF ?kK ?k6 ?k7 ?k8 ?k9 ?kB ?_ ?c2 ?c3 ?c4 ?c5; (case kA => exact rfl); (case kF => exact rfl); (case kK => assumption); (case k1 => k_asm); (case k2 => k_asm); (case k3 => k_asm); (case k5 => k_asm); (case k6 => k_is); (case k7 => k_is); (case k8 => first | exact room_0 hd | (dsimp only [ktrTop]; omega)); (case k9 => first | exact BindsTo.of_eq rfl | exact binds_K (by k_in) rfl (by k_is) rfl rfl rfl); (case c5 => decide); (case kB => exact locs rfl); (case c2 => exact rfl); (case c3 => exact rfl); (case c4 => exact rfl); k_whole)
  intro g L' h₁ eg F' N' B' X' T'
  refine wpAny_mono (E := fun _ _ => False) (Q := fun fl s' => RetB g L' s (fun tl r => RL tl r ((mergedN (ks.map splitS) n).map .int)) (match fl with | .ret v => v | _ => .none) s') ?_ (fun fl s' h => RetB.back eg F N hret h) (fun _ _ h => False.elim h)
  clear hret F N X T B
  dsimp only [List.reverse_cons, List.reverse_nil, List.nil_append, List.cons_append, List.reverse, List.reverseAux] at F'
  (try rw [← eg] at hP); clear eg
  obtain ⟨l, vs, rfl, hl, hlen, hget⟩ := rd_list hP
  clear hP
  rw [List.length_map] at hlen
  have hLs : ∀ L ∈ ks.map splitS, L.length = n ∧ ∀ l ∈ L, l.length ≤ 100 := fun L hL => by
    obtain ⟨k, hk, rfl⟩ := List.mem_map.mp hL
    exact (hks k hk).2
  have hLn : (ks.map splitS).length = ks.length := List.length_map _
  (with_reducible show wpAny _ _ _ _ _ _); (try k_fold)
  (repeat' ((fail_if_success (with_reducible show wpAny _ _ (compareOp _ (Value.ref _) (Value.ref _)) _ _ _)); (fail_if_success (with_reducible show wpAny _ _ (call (Value.type "enumerate") _) _ _ _)); (fail_if_success (with_reducible show wpAny _ _ (call (Value.builtin _) (Value.ref _ :: _)) _ _ _)); (fail_if_success (with_reducible show wpAny _ _ (subscriptTail _ _ (Value.ref _) _) _ _ _)); (fail_if_success (with_reducible show wpAny _ _ (exec (Stmt.If _ _ _ _) _) _ _ _)); (fail_if_success (with_reducible show wpAny _ _ (call (Value.ref _) _) _ _ _)); (first | (k_unfold; (try dsimp only)) | (k_end; wrow_close) | walk1 | (dsimp only; walk1) | (leave1; walk_say "STEP leave1"; try dsimp only) | fail "no step")))
  (rename Fr _ _ _ _ => lF)
  refine comp_listR (news := []) (LotsAre (ks.map splitS)) rfl lF (fun _ hp => nomatch hp) (.inl hl) (by rw [hlen]; first | exact fit100 (by assumption) | exact fit1000 (by assumption) | exact fit500 (by assumption) | (rw [sizeLine_eq]; omega)) (LotsAre.zero _ _) ?_ ?_
  · intro i v ys tl I' oI C oC D₂ m₂ h tk E' hv hR hC hx F₁ N₁ off ne
    ((try with_reducible show wpAny _ _ _ _ _ _); (try k_fold))
    obtain ⟨d, hd1, hd2⟩ := hget i v hv
    obtain ⟨k, hk, rfl⟩ : ∃ k, ks[i]? = some k ∧ lP k = d := by simpa using hd1
    have hkk := hks k (List.mem_of_getElem? hk)
    clear lF
    (try k_fold)
    (repeat' ((fail_if_success (with_reducible show wpAny _ _ (compareOp _ (Value.ref _) (Value.ref _)) _ _ _)); (fail_if_success (with_reducible show wpAny _ _ (call (Value.type "enumerate") _) _ _ _)); (fail_if_success (with_reducible show wpAny _ _ (call (Value.builtin _) (Value.ref _ :: _)) _ _ _)); (fail_if_success (with_reducible show wpAny _ _ (subscriptTail _ _ (Value.ref _) _) _ _ _)); (fail_if_success (with_reducible show wpAny _ _ (exec (Stmt.If _ _ _ _) _) _ _ _)); (fail_if_success (with_reducible show wpAny _ _ (call (Value.ref _) _) _ _ _)); (first | (k_unfold; (try dsimp only)) | (k_end; wrow_close) | walk1 | (dsimp only; walk1) | (leave1; walk_say "STEP leave1"; try dsimp only) | fail "no step")))
    with_unfolding_all refine' Con.use (con_split k hkk.1) ?k1 ?k2 ?k3 ?k4 ?k5 ?kK ?kP ?kd ?ku ?_
    (((((case k1 => k_asm); (case k2 => k_asm); (case k3 => k_asm); (case k4 => k_asm); (case k5 => k_asm); (case kK => first | exact rfl | assumption))); (case kd => first | exact room_d hd (by decide) | (dsimp only [ktrTop]; simp only [recursionLimit] at *; omega)); (case ku => first | exact room_u hu (by decide) | (dsimp only [ktrTop]; simp only [cLine] at *; omega))))
    case kP => exact ⟨_, rfl, hd2.keeps (Fr.keep (by k_asm))⟩
    intro r tl2 h9 tk9 F9 N9 of9 P9
    clear N₁
    (repeat' ((fail_if_success (with_reducible show wpAny _ _ (compareOp _ (Value.ref _) (Value.ref _)) _ _ _)); (fail_if_success (with_reducible show wpAny _ _ (call (Value.type "enumerate") _) _ _ _)); (fail_if_success (with_reducible show wpAny _ _ (call (Value.builtin _) (Value.ref _ :: _)) _ _ _)); (fail_if_success (with_reducible show wpAny _ _ (subscriptTail _ _ (Value.ref _) _) _ _ _)); (fail_if_success (with_reducible show wpAny _ _ (exec (Stmt.If _ _ _ _) _) _ _ _)); (fail_if_success (with_reducible show wpAny _ _ (call (Value.ref _) _) _ _ _)); (first | (k_unfold; (try dsimp only)) | (k_end; wrow_close) | walk1 | (dsimp only; walk1) | (leave1; walk_say "STEP leave1"; try dsimp only) | fail "no step")))
    (rename Fr _ _ _ _ => F8); (rename News _ _ _ _ => N8)
    with_unfolding_all exact compEnd_callR F8 N8 off of9 (fun l _ => .inl hl) (hR.snoc (by rw [List.getElem?_map, hk]; rfl) P9)
  · intro g9 tl ys hR
    intro D₂ h9 tk9 F9 N9 o9
    clear lF
    rw [hlen, ← hLn] at hR
    (repeat' ((fail_if_success (with_reducible show wpAny _ _ (eval (Expr.IfExp _ _ _ _) _) _ _ _)); (fail_if_success (with_reducible show wpAny _ _ (compareOp _ (Value.ref _) (Value.ref _)) _ _ _)); (fail_if_success (with_reducible show wpAny _ _ (call (Value.type "enumerate") _) _ _ _)); (fail_if_success (with_reducible show wpAny _ _ (call (Value.builtin _) (Value.ref _ :: _)) _ _ _)); (fail_if_success (with_reducible show wpAny _ _ (subscriptTail _ _ (Value.ref _) _) _ _ _)); (fail_if_success (with_reducible show wpAny _ _ (exec (Stmt.If _ _ _ _) _) _ _ _)); (fail_if_success (with_reducible show wpAny _ _ (call (Value.ref _) _) _ _ _)); (first | (k_unfold; (try dsimp only)) | (k_end; wrow_close) | walk1 | (dsimp only; walk1) | (leave1; walk_say "STEP leave1"; try dsimp only) | fail "no step")))
    (rename Fr _ _ _ _ => F9); (rename News _ _ _ _ => N9); (rename @LT.lt Nat _ _ _ ∧ AllLt _ _ => l9)
    rw [List.append_nil] at N9 l9
    obtain ⟨D, rfl⟩ := names1 N9
    have hRt : RfAll tl ys ((ks.map splitS).map llP) := hR.rf
    have hyl : ys.length = ks.length := by rw [hR.1, hLn]
    with_unfolding_all refine cut_val (fun v => ∃ t, v = .int (n : Int) t) ((D, listOf #[] 0) :: (D₂, LCg.lst ys) :: tl) F9 ?_ ?_
    · (repeat' ((fail_if_success (with_reducible show wpAny _ _ (compareOp _ (Value.ref _) (Value.ref _)) _ _ _)); (fail_if_success (with_reducible show wpAny _ _ (call (Value.type "enumerate") _) _ _ _)); (fail_if_success (with_reducible show wpAny _ _ (call (Value.builtin _) (Value.ref _ :: _)) _ _ _)); (fail_if_success (with_reducible show wpAny _ _ (subscriptTail _ _ (Value.ref _) _) _ _ _)); (fail_if_success (with_reducible show wpAny _ _ (exec (Stmt.If _ _ _ _) _) _ _ _)); (fail_if_success (with_reducible show wpAny _ _ (call (Value.ref _) _) _ _ _)); (first | (k_unfold; (try dsimp only)) | (k_end; wrow_close) | walk1 | (dsimp only; walk1) | (leave1; walk_say "STEP leave1"; try dsimp only) | fail "no step")))
      (rename Fr _ _ _ _ => F8); (rename News _ _ _ _ => N8)
      with_unfolding_all refine ne_nil (ds := (ks.map splitS).map llP) (Rf.at (tl := (D₂, LCg.lst ys) :: tl) (Rf.list (.head _) (hRt.mono fun p hp => .tail _ hp)) N8 (by (first | (walk_at "MY subB") | (walk_say "OLDSUB"; ((intro p hp; (try simp only [List.mem_cons, List.mem_append, List.cons_append, List.nil_append, List.append_nil, List.not_mem_nil, or_false, false_or, or_assoc] at hp ⊢); first | (simp only [hp, true_or, or_true]; done) | (revert hp; (repeat (first | (with_reducible show (_ ∨ _) → _; refine or_imp.mpr ⟨fun hp => (by simp only [hp, true_or, or_true]), ?_⟩) | fail "no more")); (intro hp; simp only [hp, true_or, or_true]; done)))))))) (Rf.at (tl := [(_, listOf #[] 0)]) (Rf.list (.head _) .nil) N8 (by (first | (walk_at "MY subB") | (walk_say "OLDSUB"; ((intro p hp; (try simp only [List.mem_cons, List.mem_append, List.cons_append, List.nil_append, List.append_nil, List.not_mem_nil, or_false, false_or, or_assoc] at hp ⊢); first | (simp only [hp, true_or, or_true]; done) | (revert hp; (repeat (first | (with_reducible show (_ ∨ _) → _; refine or_imp.mpr ⟨fun hp => (by simp only [hp, true_or, or_true]), ?_⟩) | fail "no more")); (intro hp; simp only [hp, true_or, or_true]; done)))))))) (shaped_lll _) (by show un + 3 + 64 < cLine; simp only [cLine] at hu ⊢; omega) ?_
      by_cases hk0 : ks = []
      · have hn0 := hnil hk0
        subst hk0
        simp only [List.map_nil, List.isEmpty_nil, Bool.not_true]
        (repeat' ((fail_if_success (with_reducible show wpAny _ _ (compareOp _ (Value.ref _) (Value.ref _)) _ _ _)); (fail_if_success (with_reducible show wpAny _ _ (call (Value.type "enumerate") _) _ _ _)); (fail_if_success (with_reducible show wpAny _ _ (call (Value.builtin _) (Value.ref _ :: _)) _ _ _)); (fail_if_success (with_reducible show wpAny _ _ (subscriptTail _ _ (Value.ref _) _) _ _ _)); (fail_if_success (with_reducible show wpAny _ _ (exec (Stmt.If _ _ _ _) _) _ _ _)); (fail_if_success (with_reducible show wpAny _ _ (call (Value.ref _) _) _ _ _)); (first | (k_unfold; (try dsimp only)) | (k_end; wrow_close) | walk1 | (dsimp only; walk1) | (leave1; walk_say "STEP leave1"; try dsimp only) | fail "no step")))
        (rename Fr _ _ _ _ => F8); (rename News _ _ _ _ => N8)
        with_unfolding_all exact CutPost.mk ⟨_, by rw [hn0]; rfl⟩ F8 N8 (by (first | (walk_at "MY subB") | (walk_say "OLDSUB"; ((intro p hp; (try simp only [List.mem_cons, List.mem_append, List.cons_append, List.nil_append, List.append_nil, List.not_mem_nil, or_false, false_or, or_assoc] at hp ⊢); first | (simp only [hp, true_or, or_true]; done) | (revert hp; (repeat (first | (with_reducible show (_ ∨ _) → _; refine or_imp.mpr ⟨fun hp => (by simp only [hp, true_or, or_true]), ?_⟩) | fail "no more")); (intro hp; simp only [hp, true_or, or_true]; done)))))))
      · rw [show (List.map llP (List.map splitS ks)).isEmpty = false by cases ks with | nil => exact absurd rfl hk0 | cons _ _ => rfl]
        simp only [Bool.not_false]
        (repeat' ((fail_if_success (with_reducible show wpAny _ _ (compareOp _ (Value.ref _) (Value.ref _)) _ _ _)); (fail_if_success (with_reducible show wpAny _ _ (call (Value.type "enumerate") _) _ _ _)); (fail_if_success (with_reducible show wpAny _ _ (call (Value.builtin _) (Value.ref _ :: _)) _ _ _)); (fail_if_success (with_reducible show wpAny _ _ (subscriptTail _ _ (Value.ref _) _) _ _ _)); (fail_if_success (with_reducible show wpAny _ _ (exec (Stmt.If _ _ _ _) _) _ _ _)); (fail_if_success (with_reducible show wpAny _ _ (call (Value.ref _) _) _ _ _)); (first | (k_unfold; (try dsimp only)) | (k_end; wrow_close) | walk1 | (dsimp only; walk1) | (leave1; walk_say "STEP leave1"; try dsimp only) | fail "no step")))
        (rename Fr _ _ _ _ => lF); (rename News _ _ _ _ => lN)
        refine comp_list (fun i => ((ks.take i).map (fun _ => (n : Int))).map .int) rfl lF lN (.inr ⟨_, by k_mem, rfl, _, rfl⟩) (by rw [hyl]; first | exact fit100 (by assumption) | exact fit1000 (by assumption) | exact fit500 (by assumption) | (rw [sizeLine_eq]; omega)) rfl ?_ ?_
        · intro i v ys9 tl9 I' oI C oC D9 m9 h tk E' hv hR9 hC hx F₁ N₁ off ne
          ((try with_reducible show wpAny _ _ _ _ _ _); (try k_fold))
          obtain ⟨d, hd1, hd2⟩ := rfAll_get hRt i v hv
          obtain ⟨k, hk, rfl⟩ : ∃ k, ks[i]? = some k ∧ llP (splitS k) = d := by simpa using hd1
          have hkk := hks k (List.mem_of_getElem? hk)
          have hs1 := map_take_succ (fun _ => (n : Int)) ks i k hk
          obtain ⟨aL, wL, rfl, hlL, hnL, hgL⟩ := rd_list (hd2.at N₁ (by (first | (walk_at "MY subB") | (walk_say "OLDSUB"; ((intro p hp; (try simp only [List.mem_cons, List.mem_append, List.cons_append, List.nil_append, List.append_nil, List.not_mem_nil, or_false, false_or, or_assoc] at hp ⊢); first | (simp only [hp, true_or, or_true]; done) | (revert hp; (repeat (first | (with_reducible show (_ ∨ _) → _; refine or_imp.mpr ⟨fun hp => (by simp only [hp, true_or, or_true]), ?_⟩) | fail "no more")); (intro hp; simp only [hp, true_or, or_true]; done))))))))
          rw [List.length_map, hkk.2.1] at hnL
          clear lF lN
          (try k_fold)
          (repeat' ((fail_if_success (with_reducible show wpAny _ _ (compareOp _ (Value.ref _) (Value.ref _)) _ _ _)); (fail_if_success (with_reducible show wpAny _ _ (call (Value.type "enumerate") _) _ _ _)); (fail_if_success (with_reducible show wpAny _ _ (call (Value.builtin _) (Value.ref _ :: _)) _ _ _)); (fail_if_success (with_reducible show wpAny _ _ (subscriptTail _ _ (Value.ref _) _) _ _ _)); (fail_if_success (with_reducible show wpAny _ _ (exec (Stmt.If _ _ _ _) _) _ _ _)); (fail_if_success (with_reducible show wpAny _ _ (call (Value.ref _) _) _ _ _)); (first | (k_unfold; (try dsimp only)) | (k_end; wrow_close) | walk1 | (dsimp only; walk1) | (leave1; walk_say "STEP leave1"; try dsimp only) | fail "no step")))
          with_unfolding_all refine call_len_list hlL (by rw [List.size_toArray, hnL]; omega) ?_
          simp only [List.size_toArray, hnL]
          (repeat' ((fail_if_success (with_reducible show wpAny _ _ (compareOp _ (Value.ref _) (Value.ref _)) _ _ _)); (fail_if_success (with_reducible show wpAny _ _ (call (Value.type "enumerate") _) _ _ _)); (fail_if_success (with_reducible show wpAny _ _ (call (Value.builtin _) (Value.ref _ :: _)) _ _ _)); (fail_if_success (with_reducible show wpAny _ _ (subscriptTail _ _ (Value.ref _) _) _ _ _)); (fail_if_success (with_reducible show wpAny _ _ (exec (Stmt.If _ _ _ _) _) _ _ _)); (fail_if_success (with_reducible show wpAny _ _ (call (Value.ref _) _) _ _ _)); (first | (k_unfold; (try dsimp only)) | (k_end; wrow_close) | walk1 | (dsimp only; walk1) | (leave1; walk_say "STEP leave1"; try dsimp only) | fail "no step")))
          (rename Fr _ _ _ _ => F9); (rename News _ _ _ _ => N9)
          refine LCg.CompEnd.intro F9 N9 _ (fun _ h => h) off (.inr ⟨_, by k_mem, rfl, _, rfl⟩) ⟨tl9, rfl, ?_⟩
          (try dsimp only)
          rw [hs1, List.map_append]; exact hR9.append (.cons Rf.int .nil)
        · intro g9 tl9 ys9 hR9
          intro D9 h9 tk9 F9 N9 o9
          clear lF lN
          have e1 : ks.take ys.length = ks := by rw [List.take_of_length_le]; rw [hyl]; exact Nat.le_refl _
          rw [e1] at hR9
          have hI9 : IntsAre ys9 (ks.map (fun _ => (n : Int))) := rfAll_ints N9 (fun p hp => .tail _ (List.mem_append.mpr (.inl hp))) hR9
          (repeat' ((fail_if_success (with_reducible show wpAny _ _ (compareOp _ (Value.ref _) (Value.ref _)) _ _ _)); (fail_if_success (with_reducible show wpAny _ _ (call (Value.type "enumerate") _) _ _ _)); (fail_if_success (with_reducible show wpAny _ _ (call (Value.builtin _) (Value.ref _ :: _)) _ _ _)); (fail_if_success (with_reducible show wpAny _ _ (subscriptTail _ _ (Value.ref _) _) _ _ _)); (fail_if_success (with_reducible show wpAny _ _ (exec (Stmt.If _ _ _ _) _) _ _ _)); (fail_if_success (with_reducible show wpAny _ _ (call (Value.ref _) _) _ _ _)); (first | (k_unfold; (try dsimp only)) | (k_end; wrow_close) | walk1 | (dsimp only; walk1) | (leave1; walk_say "STEP leave1"; try dsimp only) | fail "no step")))
          (rename Fr _ _ _ _ => F8); (rename News _ _ _ _ => N8)
          with_unfolding_all refine kso_max F8 N8 (isListN N8 (by k_mem)) hI9 (by rw [List.length_map]; exact List.length_pos_iff.mpr hk0) rfl fun h7 M t7 tk7 F7 N7 hM _ => ?_
          obtain ⟨_, _, rfl⟩ := List.mem_map.mp hM
          (repeat' ((fail_if_success (with_reducible show wpAny _ _ (compareOp _ (Value.ref _) (Value.ref _)) _ _ _)); (fail_if_success (with_reducible show wpAny _ _ (call (Value.type "enumerate") _) _ _ _)); (fail_if_success (with_reducible show wpAny _ _ (call (Value.builtin _) (Value.ref _ :: _)) _ _ _)); (fail_if_success (with_reducible show wpAny _ _ (subscriptTail _ _ (Value.ref _) _) _ _ _)); (fail_if_success (with_reducible show wpAny _ _ (exec (Stmt.If _ _ _ _) _) _ _ _)); (fail_if_success (with_reducible show wpAny _ _ (call (Value.ref _) _) _ _ _)); (first | (k_unfold; (try dsimp only)) | (k_end; wrow_close) | walk1 | (dsimp only; walk1) | (leave1; walk_say "STEP leave1"; try dsimp only) | fail "no step")))
          (rename Fr _ _ _ _ => F8); (rename News _ _ _ _ => N8)
          with_unfolding_all exact CutPost.mk ⟨_, rfl⟩ F8 N8 (by (first | (walk_at "MY subB") | (walk_say "OLDSUB"; ((intro p hp; (try simp only [List.mem_cons, List.mem_append, List.cons_append, List.nil_append, List.append_nil, List.not_mem_nil, or_false, false_or, or_assoc] at hp ⊢); first | (simp only [hp, true_or, or_true]; done) | (revert hp; (repeat (first | (with_reducible show (_ ∨ _) → _; refine or_imp.mpr ⟨fun hp => (by simp only [hp, true_or, or_true]), ?_⟩) | fail "no more")); (intro hp; simp only [hp, true_or, or_true]; done)))))))
    · intro v h8 tk8 hp9a F8 N8
      ((try with_reducible show wpAny _ _ _ _ _ _); (try k_fold))
      obtain ⟨t8, rfl⟩ := hp9a
      (repeat' ((fail_if_success (with_reducible show wpAny _ _ (compareOp _ (Value.ref _) (Value.ref _)) _ _ _)); (fail_if_success (with_reducible show wpAny _ _ (call (Value.type "enumerate") _) _ _ _)); (fail_if_success (with_reducible show wpAny _ _ (call (Value.builtin _) (Value.ref _ :: _)) _ _ _)); (fail_if_success (with_reducible show wpAny _ _ (subscriptTail _ _ (Value.ref _) _) _ _ _)); (fail_if_success (with_reducible show wpAny _ _ (exec (Stmt.If _ _ _ _) _) _ _ _)); (fail_if_success (with_reducible show wpAny _ _ (call (Value.ref _) _) _ _ _)); (first | (k_unfold; (try dsimp only)) | (k_end; wrow_close) | walk1 | (dsimp only; walk1) | (leave1; walk_say "STEP leave1"; try dsimp only) | fail "no step")))
      (rename Fr _ _ _ _ => lF); (rename News _ _ _ _ => lN)
      (rename IsRange _ _ _ _ _ _ _ _ => lR)
      have hTD : ∀ p ∈ tl, p.1 ≠ D := allLt_ne l9.2
      have hTD2 : ∀ p ∈ tl, p.1 ≠ D₂ := fun p hp => off1_mem o9 p (List.mem_append.mpr (.inl hp))
      have hDD : @Ne Nat D₂ D := Nat.ne_of_lt l9.1
      (repeat (first | clear N8 | clear F8 | clear N9 | clear F9)); clear o9
      with_unfolding_all refine for_stR (n := n) ((D, listOf #[] 0) :: (D₂, LCg.lst ys) :: tl) (fun i ps nx => ∃ us m, ps = [] ∧ nx = (D, listOf (List.toArray us) m) :: (D₂, LCg.lst ys) :: tl ∧ IntsAre us (mergedN (ks.map splitS) i)) [] [(Str.ofString "number"), (Str.ofString "at"), (Str.ofString "lot")] rfl lF lN (fun p hp => hp) lR ?_ ?_ ⟨[], 0, rfl, rfl, .nil⟩ (List.forall_mem_nil _) ?_ ?_
      · exact small_one (by omega) (by omega) (by omega) (by omega)
      · rw [rangeSize_nat]; omega
      · clear lF lN lR
        intro i t ps u nx h tk own hi ho hp9a F₁ N₁
        ((try with_reducible show wpAny _ _ _ _ _ _); (try k_fold))
        obtain ⟨us, m, rfl, rfl, hIu⟩ := hp9a
        change Fr g L' h _ at F₁; change News g L' h _ at N₁
        have hul : us.length ≤ 5000 := by
          have := merged_len (ks.map splitS) (fun L hL => (hLs L hL).2) i
          rw [hIu.length]
          have h1 : (1 + 101 * (ks.map splitS).length) * i ≤ 1011 * 4 := Nat.mul_le_mul (by omega) (by omega)
          omega
        have hoD : ∀ p ∈ own, p.1 ≠ D := fun p hp => ho p hp D (by simp)
        have hoD2 : ∀ p ∈ own, p.1 ≠ D₂ := fun p hp => ho p hp D₂ (by simp)
        have hoT : OwnOff own (tl.map (·.1)) := fun p hp b hb => ho p hp b (by simp only [List.map_cons, List.mem_cons]; exact .inr (.inr hb))
        have hap : ∀ p ∈ (D₂, LCg.lst ys) :: (tl ++ own), p.1 ≠ D := List.forall_mem_cons.mpr ⟨hDD, fun p hp => (List.mem_append.mp hp).elim (hTD p) (hoD p)⟩
        (with_reducible show wpAny _ _ _ _ _ _); (try k_fold)
        (repeat' ((fail_if_success (with_reducible show wpAny _ _ (compareOp _ (Value.ref _) (Value.ref _)) _ _ _)); (fail_if_success (with_reducible show wpAny _ _ (call (Value.type "enumerate") _) _ _ _)); (fail_if_success (with_reducible show wpAny _ _ (call (Value.builtin _) (Value.ref _ :: _)) _ _ _)); (fail_if_success (with_reducible show wpAny _ _ (subscriptTail _ _ (Value.ref _) _) _ _ _)); (fail_if_success (with_reducible show wpAny _ _ (exec (Stmt.If _ _ _ _) _) _ _ _)); (fail_if_success (with_reducible show wpAny _ _ (call (Value.ref _) _) _ _ _)); (first | (k_unfold; (try dsimp only)) | (k_end; wrow_close) | walk1 | (dsimp only; walk1) | (leave1; walk_say "STEP leave1"; try dsimp only) | fail "no step")))
        (rename Fr _ _ _ _ => F9); (rename News _ _ _ _ => N9)
        with_unfolding_all refine cut_add (fun us' => IntsAre us' (mergedN (ks.map splitS) i ++ if i = 0 then [] else [0])) D ((D₂, LCg.lst ys) :: (tl ++ own)) F9 ?_ ?_
        · walk1
          (repeat' ((fail_if_success (with_reducible show wpAny _ _ (compareOp _ (Value.ref _) (Value.ref _)) _ _ _)); (fail_if_success (with_reducible show wpAny _ _ (call (Value.type "enumerate") _) _ _ _)); (fail_if_success (with_reducible show wpAny _ _ (call (Value.builtin _) (Value.ref _ :: _)) _ _ _)); (fail_if_success (with_reducible show wpAny _ _ (subscriptTail _ _ (Value.ref _) _) _ _ _)); (fail_if_success (with_reducible show wpAny _ _ (exec (Stmt.If _ _ _ _) _) _ _ _)); (fail_if_success (with_reducible show wpAny _ _ (call (Value.ref _) _) _ _ _)); (first | (k_unfold; (try dsimp only)) | (k_end; wrow_close) | walk1 | (dsimp only; walk1) | (leave1; walk_say "STEP leave1"; try dsimp only) | fail "no step")))
          · with_unfolding_all refine append_to ((D₂, LCg.lst ys) :: (tl ++ own)) F9 N9 (by k_mem) (by (first | (walk_at "MY subB") | (walk_say "OLDSUB"; ((intro p hp; (try simp only [List.mem_cons, List.mem_append, List.cons_append, List.nil_append, List.append_nil, List.not_mem_nil, or_false, false_or, or_assoc] at hp ⊢); first | (simp only [hp, true_or, or_true]; done) | (revert hp; (repeat (first | (with_reducible show (_ ∨ _) → _; refine or_imp.mpr ⟨fun hp => (by simp only [hp, true_or, or_true]), ?_⟩) | fail "no more")); (intro hp; simp only [hp, true_or, or_true]; done))))))) hap (by first | exact fit100 (by assumption) | exact fit1000 (by assumption) | exact fit500 (by assumption) | (rw [sizeLine_eq]; omega)) fun h8 n8 F8 N8 => ?_
            (repeat' ((fail_if_success (with_reducible show wpAny _ _ (compareOp _ (Value.ref _) (Value.ref _)) _ _ _)); (fail_if_success (with_reducible show wpAny _ _ (call (Value.type "enumerate") _) _ _ _)); (fail_if_success (with_reducible show wpAny _ _ (call (Value.builtin _) (Value.ref _ :: _)) _ _ _)); (fail_if_success (with_reducible show wpAny _ _ (subscriptTail _ _ (Value.ref _) _) _ _ _)); (fail_if_success (with_reducible show wpAny _ _ (exec (Stmt.If _ _ _ _) _) _ _ _)); (fail_if_success (with_reducible show wpAny _ _ (call (Value.ref _) _) _ _ _)); (first | (k_unfold; (try dsimp only)) | (k_end; wrow_close) | walk1 | (dsimp only; walk1) | (leave1; walk_say "STEP leave1"; try dsimp only) | fail "no step")))
            (rename Fr _ _ _ _ => F7); (rename News _ _ _ _ => N7)
            with_unfolding_all refine AddPost.mk1 F7 N7 ?_
            rw [if_neg (by omega)]; exact hIu.append (.cons _ _ .nil)
          · with_unfolding_all refine AddPost.mk (us := us) (k := m) ?_ F9 N9 (by (first | (walk_at "MY subB") | (walk_say "OLDSUB"; ((intro p hp; (try simp only [List.mem_cons, List.mem_append, List.cons_append, List.nil_append, List.append_nil, List.not_mem_nil, or_false, false_or, or_assoc] at hp ⊢); first | (simp only [hp, true_or, or_true]; done) | (revert hp; (repeat (first | (with_reducible show (_ ∨ _) → _; refine or_imp.mpr ⟨fun hp => (by simp only [hp, true_or, or_true]), ?_⟩) | fail "no more")); (intro hp; simp only [hp, true_or, or_true]; done)))))))
            rw [if_pos (by omega), List.append_nil]; exact hIu
        · intro us2 k2 h2 tk2 hI2 F2 N2
          clear F9 N9 hIu
          (repeat' ((fail_if_success (with_reducible show wpAny _ _ (compareOp _ (Value.ref _) (Value.ref _)) _ _ _)); (fail_if_success (with_reducible show wpAny _ _ (call (Value.type "enumerate") _) _ _ _)); (fail_if_success (with_reducible show wpAny _ _ (call (Value.builtin _) (Value.ref _ :: _)) _ _ _)); (fail_if_success (with_reducible show wpAny _ _ (subscriptTail _ _ (Value.ref _) _) _ _ _)); (fail_if_success (with_reducible show wpAny _ _ (exec (Stmt.If _ _ _ _) _) _ _ _)); (fail_if_success (with_reducible show wpAny _ _ (call (Value.ref _) _) _ _ _)); (first | (k_unfold; (try dsimp only)) | (k_end; wrow_close) | walk1 | (dsimp only; walk1) | (leave1; walk_say "STEP leave1"; try dsimp only) | fail "no step")))
          (rename Fr _ _ _ _ => F9)
          with_unfolding_all refine for_enum (vs := ys) ((D, listOf (List.toArray us2) k2) :: (tl ++ own)) [(D₂, LCg.lst ys)] (fun j ps nx => ∃ us m, ps = [] ∧ nx = (D, listOf (List.toArray us) m) :: (tl ++ own) ∧ IntsAre us (mergedN (ks.map splitS) i ++ (if i = 0 then [] else [0]) ++ mrow i ((ks.map splitS).take j))) [] [(Str.ofString "at"), (Str.ofString "lot")] rfl F9 N2 (by (first | (walk_at "MY subB") | (walk_say "OLDSUB"; ((intro p hp; (try simp only [List.mem_cons, List.mem_append, List.cons_append, List.nil_append, List.append_nil, List.not_mem_nil, or_false, false_or, or_assoc] at hp ⊢); first | (simp only [hp, true_or, or_true]; done) | (revert hp; (repeat (first | (with_reducible show (_ ∨ _) → _; refine or_imp.mpr ⟨fun hp => (by simp only [hp, true_or, or_true]), ?_⟩) | fail "no more")); (intro hp; simp only [hp, true_or, or_true]; done))))))) (.inr ⟨_, rfl⟩) (List.forall_mem_cons.mpr ⟨Ne.symm hDD, fun p hp => (List.mem_append.mp hp).elim (hTD2 p) (hoD2 p)⟩) ⟨us2, k2, rfl, rfl, (by simpa [mrow] using hI2)⟩ (List.forall_mem_nil _) ?_ ?_
          · clear F9 N2 hI2
            intro j v t2 T ps u2 nx h3 tk3 own2 hv hlo2 hof2 hp9a F₃ N₃ hT
            ((try with_reducible show wpAny _ _ _ _ _ _); (try k_fold))
            obtain ⟨us3, m3, rfl, rfl, hI3⟩ := hp9a
            change Fr g L' h3 _ at F₃; change News g L' h3 _ at N₃; change IsTup h3 _ _ at hT
            obtain ⟨Lj, hLj, hRLL⟩ := hR.2 j v hv
            obtain ⟨aL, wL, nL, rfl, hmL, hRL⟩ := hRLL
            have hLj2 := hLs Lj (List.mem_of_getElem? hLj)
            have hwl : wL.length = n := by rw [hRL.length]; exact hLj2.1
            have hi3 : (0 + (i : Int)).toNat = i := by omega
            obtain ⟨v3, hv3⟩ : ∃ v3, wL[(0 + (i : Int)).toNat]? = some v3 := ⟨wL[i]'(by omega), by rw [hi3]; exact List.getElem?_eq_getElem _⟩
            obtain ⟨x, hx, hrl⟩ := hRL.get i v3 (hi3 ▸ hv3)
            obtain ⟨b3, w3, n3, rfl, hm3, hR3⟩ := rl_list hrl
            have hIx : IntsAre w3 x := rfAll_ints N₃ (fun p hp => List.mem_append.mpr (.inl (.tail _ (List.mem_append.mpr (.inl hp))))) hR3
            have hs1 := mrow_snoc i ((ks.map splitS).take j) Lj
            rw [show (ks.map splitS).take j ++ [Lj] = (ks.map splitS).take (j + 1) by rw [List.take_add_one, hLj]; rfl] at hs1
            have hne : ((ks.map splitS).take j = []) = (j = 0) := by
              have hjl : j < (ks.map splitS).length := (List.getElem?_eq_some_iff.mp hLj).1
              rw [List.take_eq_nil_iff]; refine propext ⟨?_, .inl⟩
              rintro (e | e)
              · exact e
              · rw [e] at hjl; exact absurd hjl (Nat.not_lt_zero _)
            have hgd : Lj.getD i [] = x := by rw [List.getD_eq_getElem?_getD, hx]; rfl
            rw [hgd] at hs1
            have hxl : w3.length ≤ 100 := by rw [hIx.length]; exact hLj2.2 x (List.mem_of_getElem? hx)
            have hul3 : us3.length ≤ 12000 := by
              have h1 := merged_len (ks.map splitS) (fun L hL => (hLs L hL).2) i
              have h2 := merged_len ((ks.map splitS).take j) (fun L hL => (hLs L (List.mem_of_mem_take hL)).2) (i + 1)
              have h3 : (1 + 101 * (ks.map splitS).length) * i ≤ 1011 * 4 := Nat.mul_le_mul (by omega) (by omega)
              have h4 : (1 + 101 * ((ks.map splitS).take j).length) * (i + 1) ≤ 1011 * 5 := Nat.mul_le_mul (by rw [List.length_take]; omega) (by omega)
              rw [mergedN, List.length_append] at h2
              have h5 : (if i = 0 then ([] : List Int) else [0]).length ≤ 1 := by split <;> simp
              rw [hI3.length, List.length_append, List.length_append]
              omega
            have ho2D : ∀ p ∈ own2, p.1 ≠ D := fun p hp => hof2 p hp D (by simp)
            have hap2 : ∀ p ∈ tl ++ (own ++ own2), p.1 ≠ D := fun p hp => (List.mem_append.mp hp).elim (hTD p) fun q => (List.mem_append.mp q).elim (hoD p) (ho2D p)
            clear hv hlo2 hrl hR3 hgd
            (with_reducible show wpAny _ _ _ _ _ _); (try k_fold)
            (repeat' ((fail_if_success (with_reducible show wpAny _ _ (compareOp _ (Value.ref _) (Value.ref _)) _ _ _)); (fail_if_success (with_reducible show wpAny _ _ (call (Value.type "enumerate") _) _ _ _)); (fail_if_success (with_reducible show wpAny _ _ (call (Value.builtin _) (Value.ref _ :: _)) _ _ _)); (fail_if_success (with_reducible show wpAny _ _ (subscriptTail _ _ (Value.ref _) _) _ _ _)); (fail_if_success (with_reducible show wpAny _ _ (exec (Stmt.If _ _ _ _) _) _ _ _)); (fail_if_success (with_reducible show wpAny _ _ (call (Value.ref _) _) _ _ _)); (first | (k_unfold; (try dsimp only)) | (k_end; wrow_close) | walk1 | (dsimp only; walk1) | (leave1; walk_say "STEP leave1"; try dsimp only) | fail "no step")))
            (rename Fr _ _ _ _ => F9); (rename News _ _ _ _ => N9)
            with_unfolding_all refine cut_add (fun us' => IntsAre us' (mergedN (ks.map splitS) i ++ (if i = 0 then [] else [0]) ++ mrow i ((ks.map splitS).take j) ++ if j = 0 then [] else [1])) D (tl ++ (own ++ own2)) F9 ?_ ?_
            · walk1
              (repeat' ((fail_if_success (with_reducible show wpAny _ _ (compareOp _ (Value.ref _) (Value.ref _)) _ _ _)); (fail_if_success (with_reducible show wpAny _ _ (call (Value.type "enumerate") _) _ _ _)); (fail_if_success (with_reducible show wpAny _ _ (call (Value.builtin _) (Value.ref _ :: _)) _ _ _)); (fail_if_success (with_reducible show wpAny _ _ (subscriptTail _ _ (Value.ref _) _) _ _ _)); (fail_if_success (with_reducible show wpAny _ _ (exec (Stmt.If _ _ _ _) _) _ _ _)); (fail_if_success (with_reducible show wpAny _ _ (call (Value.ref _) _) _ _ _)); (first | (k_unfold; (try dsimp only)) | (k_end; wrow_close) | walk1 | (dsimp only; walk1) | (leave1; walk_say "STEP leave1"; try dsimp only) | fail "no step")))
              · with_unfolding_all refine append_to (tl ++ (own ++ own2)) F9 N9 (by k_mem) (by (first | (walk_at "MY subB") | (walk_say "OLDSUB"; ((intro p hp; (try simp only [List.mem_cons, List.mem_append, List.cons_append, List.nil_append, List.append_nil, List.not_mem_nil, or_false, false_or, or_assoc] at hp ⊢); first | (simp only [hp, true_or, or_true]; done) | (revert hp; (repeat (first | (with_reducible show (_ ∨ _) → _; refine or_imp.mpr ⟨fun hp => (by simp only [hp, true_or, or_true]), ?_⟩) | fail "no more")); (intro hp; simp only [hp, true_or, or_true]; done))))))) hap2 (by first | exact fit100 (by assumption) | exact fit1000 (by assumption) | exact fit500 (by assumption) | (rw [sizeLine_eq]; omega)) fun h8 n8 F8 N8 => ?_
                (repeat' ((fail_if_success (with_reducible show wpAny _ _ (compareOp _ (Value.ref _) (Value.ref _)) _ _ _)); (fail_if_success (with_reducible show wpAny _ _ (call (Value.type "enumerate") _) _ _ _)); (fail_if_success (with_reducible show wpAny _ _ (call (Value.builtin _) (Value.ref _ :: _)) _ _ _)); (fail_if_success (with_reducible show wpAny _ _ (subscriptTail _ _ (Value.ref _) _) _ _ _)); (fail_if_success (with_reducible show wpAny _ _ (exec (Stmt.If _ _ _ _) _) _ _ _)); (fail_if_success (with_reducible show wpAny _ _ (call (Value.ref _) _) _ _ _)); (first | (k_unfold; (try dsimp only)) | (k_end; wrow_close) | walk1 | (dsimp only; walk1) | (leave1; walk_say "STEP leave1"; try dsimp only) | fail "no step")))
                (rename Fr _ _ _ _ => F7); (rename News _ _ _ _ => N7)
                with_unfolding_all refine AddPost.mk1 F7 N7 ?_
                rw [if_neg (show ¬ j = 0 by omega)]; exact hI3.append (.cons _ _ .nil)
              · with_unfolding_all refine AddPost.mk (us := us3) (k := m3) ?_ F9 N9 (by (first | (walk_at "MY subB") | (walk_say "OLDSUB"; ((intro p hp; (try simp only [List.mem_cons, List.mem_append, List.cons_append, List.nil_append, List.append_nil, List.not_mem_nil, or_false, false_or, or_assoc] at hp ⊢); first | (simp only [hp, true_or, or_true]; done) | (revert hp; (repeat (first | (with_reducible show (_ ∨ _) → _; refine or_imp.mpr ⟨fun hp => (by simp only [hp, true_or, or_true]), ?_⟩) | fail "no more")); (intro hp; simp only [hp, true_or, or_true]; done)))))))
                rw [if_pos (show j = 0 by omega), List.append_nil]; exact hI3
            · intro us4 k4 h4 tk4 hI4 F4 N4
              have hul4 : us4.length ≤ 12001 := by
                have h5 : (if j = 0 then ([] : List Int) else [1]).length ≤ 1 := by split <;> simp
                rw [hI4.length, List.length_append, ← hI3.length]; omega
              clear F9 N9 hI3
              (repeat' ((fail_if_success (with_reducible show wpAny _ _ (compareOp _ (Value.ref _) (Value.ref _)) _ _ _)); (fail_if_success (with_reducible show wpAny _ _ (call (Value.type "enumerate") _) _ _ _)); (fail_if_success (with_reducible show wpAny _ _ (call (Value.builtin _) (Value.ref _ :: _)) _ _ _)); (fail_if_success (with_reducible show wpAny _ _ (subscriptTail _ _ (Value.ref _) _) _ _ _)); (fail_if_success (with_reducible show wpAny _ _ (exec (Stmt.If _ _ _ _) _) _ _ _)); (fail_if_success (with_reducible show wpAny _ _ (call (Value.ref _) _) _ _ _)); (first | (k_unfold; (try dsimp only)) | (k_end; wrow_close) | walk1 | (dsimp only; walk1) | (leave1; walk_say "STEP leave1"; try dsimp only) | fail "no step")))
              (rename Fr _ _ _ _ => F9); (rename News _ _ _ _ => N9)
              with_unfolding_all refine call_len_list (isListN N9 (by k_mem)) (by rw [List.size_toArray, hwl]; omega) ?_
              simp only [List.size_toArray, hwl]
              (repeat' ((fail_if_success (with_reducible show wpAny _ _ (compareOp _ (Value.ref _) (Value.ref _)) _ _ _)); (fail_if_success (with_reducible show wpAny _ _ (call (Value.type "enumerate") _) _ _ _)); (fail_if_success (with_reducible show wpAny _ _ (call (Value.builtin _) (Value.ref _ :: _)) _ _ _)); (fail_if_success (with_reducible show wpAny _ _ (subscriptTail _ _ (Value.ref _) _) _ _ _)); (fail_if_success (with_reducible show wpAny _ _ (exec (Stmt.If _ _ _ _) _) _ _ _)); (fail_if_success (with_reducible show wpAny _ _ (call (Value.ref _) _) _ _ _)); (first | (k_unfold; (try dsimp only)) | (k_end; wrow_close) | walk1 | (dsimp only; walk1) | (leave1; walk_say "STEP leave1"; try dsimp only) | fail "no step")))
              (rename Fr _ _ _ _ => F8); (rename News _ _ _ _ => N8)
              with_unfolding_all refine list_at (us := wL) (isListN N8 (by k_mem)) (.inl ⟨by omega, hv3⟩) (by omega) (by omega) ?_ (by with_unfolding_all rfl)
              (repeat' ((fail_if_success (with_reducible show wpAny _ _ (compareOp _ (Value.ref _) (Value.ref _)) _ _ _)); (fail_if_success (with_reducible show wpAny _ _ (call (Value.type "enumerate") _) _ _ _)); (fail_if_success (with_reducible show wpAny _ _ (call (Value.builtin _) (Value.ref _ :: _)) _ _ _)); (fail_if_success (with_reducible show wpAny _ _ (subscriptTail _ _ (Value.ref _) _) _ _ _)); (fail_if_success (with_reducible show wpAny _ _ (exec (Stmt.If _ _ _ _) _) _ _ _)); (fail_if_success (with_reducible show wpAny _ _ (call (Value.ref _) _) _ _ _)); (first | (k_unfold; (try dsimp only)) | (k_end; wrow_close) | walk1 | (dsimp only; walk1) | (leave1; walk_say "STEP leave1"; try dsimp only) | fail "no step")))
              (rename Fr _ _ _ _ => F7); (rename News _ _ _ _ => N7)
              with_unfolding_all refine extend_at (tl ++ (own ++ own2)) F7 N7 (by k_mem) (show (b3, listOf (List.toArray w3) n3) ∈ _ by k_mem) (by (first | (walk_at "MY subB") | (walk_say "OLDSUB"; ((intro p hp; (try simp only [List.mem_cons, List.mem_append, List.cons_append, List.nil_append, List.append_nil, List.not_mem_nil, or_false, false_or, or_assoc] at hp ⊢); first | (simp only [hp, true_or, or_true]; done) | (revert hp; (repeat (first | (with_reducible show (_ ∨ _) → _; refine or_imp.mpr ⟨fun hp => (by simp only [hp, true_or, or_true]), ?_⟩) | fail "no more")); (intro hp; simp only [hp, true_or, or_true]; done))))))) hap2 (hTD _ hm3) (by first | exact fit100 (by assumption) | exact fit1000 (by assumption) | exact fit500 (by assumption) | (rw [sizeLine_eq]; omega)) fun h6 n6 F6 N6 => ?_
              (repeat' ((fail_if_success (with_reducible show wpAny _ _ (compareOp _ (Value.ref _) (Value.ref _)) _ _ _)); (fail_if_success (with_reducible show wpAny _ _ (call (Value.type "enumerate") _) _ _ _)); (fail_if_success (with_reducible show wpAny _ _ (call (Value.builtin _) (Value.ref _ :: _)) _ _ _)); (fail_if_success (with_reducible show wpAny _ _ (subscriptTail _ _ (Value.ref _) _) _ _ _)); (fail_if_success (with_reducible show wpAny _ _ (exec (Stmt.If _ _ _ _) _) _ _ _)); (fail_if_success (with_reducible show wpAny _ _ (call (Value.ref _) _) _ _ _)); (first | (k_unfold; (try dsimp only)) | (k_end; wrow_close) | walk1 | (dsimp only; walk1) | (leave1; walk_say "STEP leave1"; try dsimp only) | fail "no step")))
              (rename Fr _ _ _ _ => F9); (rename News _ _ _ _ => N9)
              with_unfolding_all refine StJ.end [] ((D, listOf (List.toArray (us4 ++ w3)) n6) :: (tl ++ own)) F9 N9 (by (first | (walk_at "MY subB") | (walk_say "OLDSUB"; ((intro p hp; (try simp only [List.mem_cons, List.mem_append, List.cons_append, List.nil_append, List.append_nil, List.not_mem_nil, or_false, false_or, or_assoc] at hp ⊢); first | (simp only [hp, true_or, or_true]; done) | (revert hp; (repeat (first | (with_reducible show (_ ∨ _) → _; refine or_imp.mpr ⟨fun hp => (by simp only [hp, true_or, or_true]), ?_⟩) | fail "no more")); (intro hp; simp only [hp, true_or, or_true]; done))))))) (by (first | (walk_at "MY subB") | (walk_say "OLDSUB"; ((intro p hp; (try simp only [List.mem_cons, List.mem_append, List.cons_append, List.nil_append, List.append_nil, List.not_mem_nil, or_false, false_or, or_assoc] at hp ⊢); first | (simp only [hp, true_or, or_true]; done) | (revert hp; (repeat (first | (with_reducible show (_ ∨ _) → _; refine or_imp.mpr ⟨fun hp => (by simp only [hp, true_or, or_true]), ?_⟩) | fail "no more")); (intro hp; simp only [hp, true_or, or_true]; done))))))) ?_ ⟨_, n6, rfl, rfl, ?_⟩ (List.forall_mem_nil _) (by (first | (intro z h2 h3; (try dsimp only at h2); (repeat (first | exact skc h3 | (with_reducible exact rfl) | (refine sk (ne_in h3 (by with_reducible first | exact nm_head | exact nm_tail nm_head | exact nm_tail (nm_tail nm_head) | exact nm_tail (nm_tail (nm_tail nm_head)) | exact nm_tail (nm_tail (nm_tail (nm_tail nm_head))) | exact nm_tail (nm_tail (nm_tail (nm_tail (nm_tail nm_head)))) | exact nm_tail (nm_tail (nm_tail (nm_tail (nm_tail (nm_tail nm_head))))) | exact nm_tail (nm_tail (nm_tail (nm_tail (nm_tail (nm_tail (nm_tail nm_head)))))) | exact nm_tail (nm_tail (nm_tail (nm_tail (nm_tail (nm_tail (nm_tail (nm_tail nm_head))))))))) ?_) | (refine sk (ne_h h2) ?_) | (refine sk (ne_h (ne_t h2)) ?_) | (refine sk (ne_h (ne_t (ne_t h2))) ?_) | fail "no name")); done) | (walk_say "OLDSAME"; (((try dsimp +zetaDelta only); intro z h2 h3; (try simp only [List.forall_mem_cons, List.not_mem_nil, false_implies, implies_true, and_true, ne_eq] at h2); (have h4 := h3); (simp only [List.contains_cons, List.contains_nil, Bool.or_false, Bool.or_eq_false_iff, beq_eq_false_iff_ne, ne_eq] at h3); ((simp only [kstB, h2, h3, h4, if_false, Bool.false_eq_true]) <;> rfl))))))
              · exact fun p hp => List.forall_mem_cons.mpr ⟨ho2D p hp, fun b hb => hof2 p hp b (List.mem_cons_of_mem _ hb)⟩
              · rw [hs1]
                simp only [hne]
                simpa only [List.append_assoc] using hI4.append hIx
          · clear F9 N2 hI2
            intro ps u2 nx h3 tk3 hp9a hnl F₃ N₃
            ((try with_reducible show wpAny _ _ _ _ _ _); (try k_fold))
            obtain ⟨us3, m3, rfl, rfl, hI3⟩ := hp9a
            change Fr g L' h3 _ at F₃; change News g L' h3 _ at N₃
            rw [show (ks.map splitS).take ys.length = ks.map splitS by rw [hyl, ← hLn, List.take_length]] at hI3
            (with_reducible show wpAny _ _ _ _ _ _); (try k_fold)
            (repeat' ((fail_if_success (with_reducible show wpAny _ _ (compareOp _ (Value.ref _) (Value.ref _)) _ _ _)); (fail_if_success (with_reducible show wpAny _ _ (call (Value.type "enumerate") _) _ _ _)); (fail_if_success (with_reducible show wpAny _ _ (call (Value.builtin _) (Value.ref _ :: _)) _ _ _)); (fail_if_success (with_reducible show wpAny _ _ (subscriptTail _ _ (Value.ref _) _) _ _ _)); (fail_if_success (with_reducible show wpAny _ _ (exec (Stmt.If _ _ _ _) _) _ _ _)); (fail_if_success (with_reducible show wpAny _ _ (call (Value.ref _) _) _ _ _)); (first | (k_unfold; (try dsimp only)) | (k_end; wrow_close) | walk1 | (dsimp only; walk1) | (leave1; walk_say "STEP leave1"; try dsimp only) | fail "no step")))
            (rename Fr _ _ _ _ => F9); (rename News _ _ _ _ => N9)
            with_unfolding_all refine StJ.end [] ((D, listOf (List.toArray us3) m3) :: (D₂, LCg.lst ys) :: tl) F9 N9 (by (first | (walk_at "MY subB") | (walk_say "OLDSUB"; ((intro p hp; (try simp only [List.mem_cons, List.mem_append, List.cons_append, List.nil_append, List.append_nil, List.not_mem_nil, or_false, false_or, or_assoc] at hp ⊢); first | (simp only [hp, true_or, or_true]; done) | (revert hp; (repeat (first | (with_reducible show (_ ∨ _) → _; refine or_imp.mpr ⟨fun hp => (by simp only [hp, true_or, or_true]), ?_⟩) | fail "no more")); (intro hp; simp only [hp, true_or, or_true]; done))))))) (by (first | (walk_at "MY subB") | (walk_say "OLDSUB"; ((intro p hp; (try simp only [List.mem_cons, List.mem_append, List.cons_append, List.nil_append, List.append_nil, List.not_mem_nil, or_false, false_or, or_assoc] at hp ⊢); first | (simp only [hp, true_or, or_true]; done) | (revert hp; (repeat (first | (with_reducible show (_ ∨ _) → _; refine or_imp.mpr ⟨fun hp => (by simp only [hp, true_or, or_true]), ?_⟩) | fail "no more")); (intro hp; simp only [hp, true_or, or_true]; done))))))) ?_ ⟨us3, m3, rfl, rfl, hI3⟩ (List.forall_mem_nil _) (by (((try dsimp +zetaDelta only); intro z h2 h3; (try simp only [List.forall_mem_cons, List.not_mem_nil, false_implies, implies_true, and_true, ne_eq] at h2); (simp only [List.contains_cons, List.contains_nil, Bool.or_false, Bool.or_eq_false_iff, beq_eq_false_iff_ne, ne_eq] at h3); (simp [kstB, h2, h3]))))
            exact fun p hp => List.forall_mem_cons.mpr ⟨hoD p hp, List.forall_mem_cons.mpr ⟨hoD2 p hp, hoT p hp⟩⟩
      · clear lF lN lR
        intro ps u nx h tk hp9a F₁ N₁
        ((try with_reducible show wpAny _ _ _ _ _ _); (try k_fold))
        obtain ⟨us, m, rfl, rfl, hIu⟩ := hp9a
        change Fr g L' h _ at F₁; change News g L' h _ at N₁
        (with_reducible show wpAny _ _ _ _ _ _); (try k_fold)
        (repeat' ((fail_if_success (with_reducible show wpAny _ _ (compareOp _ (Value.ref _) (Value.ref _)) _ _ _)); (fail_if_success (with_reducible show wpAny _ _ (call (Value.type "enumerate") _) _ _ _)); (fail_if_success (with_reducible show wpAny _ _ (call (Value.builtin _) (Value.ref _ :: _)) _ _ _)); (fail_if_success (with_reducible show wpAny _ _ (subscriptTail _ _ (Value.ref _) _) _ _ _)); (fail_if_success (with_reducible show wpAny _ _ (exec (Stmt.If _ _ _ _) _) _ _ _)); (fail_if_success (with_reducible show wpAny _ _ (call (Value.ref _) _) _ _ _)); (first | (k_unfold; (try dsimp only)) | (k_end; wrow_close) | walk1 | (dsimp only; walk1) | (leave1; walk_say "STEP leave1"; try dsimp only) | fail "no step")))
        (rename Fr _ _ _ _ => F9); (rename News _ _ _ _ => N9)
        with_unfolding_all exact RetB.fin F9 N9 _ (fun p hp => hp) (RL.mk (.head _) (RfAll.ints hIu))
end

section
theorem top_off_P2 : True := by
  w_top off
  exact trivial
def levOf (how : How) (str : Int) (bw : Bool) (es : List Elem) : List (List Int) := levelsS how str bw (weightedS how es)
def keyOf (how : How) (str : Int) (bw : Bool) (es : List Elem) : List Int := keyS (levOf how str bw es)
theorem rls_at {tl : List (Addr × Obj)} {vs : List Value} {ess : List (List Elem)} {i : Nat} {e : List Elem} {f : List Elem → List Int} (h : RLs tl vs (ess.map f)) (he : ess[i]? = some e) : ∃ v, vs[i]? = some v ∧ RL tl v ((f e).map .int) := by
  have hi := (List.getElem?_eq_some_iff.mp he).1
  have hl := h.length
  rw [List.length_map] at hl
  have hv : vs[i]? = some (vs[i]'(by omega)) := List.getElem?_eq_getElem _
  obtain ⟨l, h1, h2⟩ := h.get i _ hv
  rw [List.getElem?_map, he] at h1
  obtain rfl : f e = l := by simpa using h1
  exact ⟨_, hv, h2⟩
theorem rfa_at {tl : List (Addr × Obj)} {vs : List Value} {ess : List (List Elem)} {i : Nat} {e : List Elem} {f : List Elem → PyData} (h : RfAll tl vs (ess.map f)) (he : ess[i]? = some e) : ∃ v, vs[i]? = some v ∧ Rf tl v (f e) := by
  have hi := (List.getElem?_eq_some_iff.mp he).1
  have hl := h.length
  rw [List.length_map] at hl
  have hv : vs[i]? = some (vs[i]'(by omega)) := List.getElem?_eq_getElem _
  obtain ⟨l, h1, h2⟩ := rfAll_get h i _ hv
  rw [List.getElem?_map, he] at h1
  obtain rfl : f e = l := by simpa using h1
  exact ⟨_, hv, h2⟩
def prevI (i : Nat) : Nat := if i = 0 then 2 else i - 1
theorem at_k {us : List Value} {i : Nat} {v : Value} (h : us[i]? = some v) : ((0 : Int) ≤ 0 + (i : Int) ∧ us[(0 + (i : Int)).toNat]? = some v) ∨ ((0 + (i : Int)) < 0 ∧ -(us.length : Int) ≤ 0 + (i : Int) ∧ us[((0 + (i : Int)) + us.length).toNat]? = some v) :=
  .inl ⟨by omega, by rw [show (0 + (i : Int)).toNat = i by omega]; exact h⟩
theorem at_p {us : List Value} {i : Nat} {v : Value} (hi : i < 3) (hl : us.length = 3) (h : us[prevI i]? = some v) : ((0 : Int) ≤ 0 + (i : Int) - 1 ∧ us[(0 + (i : Int) - 1).toNat]? = some v) ∨ ((0 + (i : Int) - 1) < 0 ∧ -(us.length : Int) ≤ 0 + (i : Int) - 1 ∧ us[((0 + (i : Int) - 1) + us.length).toNat]? = some v) := by
  unfold prevI at h
  by_cases h0 : i = 0
  · subst h0
    rw [if_pos rfl] at h
    refine .inr ⟨by omega, by omega, ?_⟩
    rw [hl]; exact h
  · rw [if_neg h0] at h
    exact .inl ⟨by omega, by rw [show (0 + (i : Int) - 1).toNat = i - 1 by omega]; exact h⟩
theorem con_lkeyL (L : List (List Int)) (hn : L ≠ []) (hl : L.length ≤ 10) (h : ∀ l ∈ L, l.length ≤ 100) : Con 162 1 (fun h vs => ∃ v, vs = [v] ∧ Rd h v (llP L)) (fun tl r => Rf tl r (lP (keyS L))) := by
  cases L with
  | nil => exact absurd rfl hn
  | cons l ls => exact con_lkey l ls (h l (.head _)) (by rw [List.length_cons] at hl; omega) fun x hx => h x (.tail _ hx)
structure LevAll (how : How) (str : Int) (bw : Bool) (es : List Elem) : Prop where
  ne : levOf how str bw es ≠ []
  num : (levOf how str bw es).length = str.toNat
  le : (levOf how str bw es).length ≤ 4
  ent : ∀ l ∈ levOf how str bw es, Ent l
  len : ∀ l ∈ levOf how str bw es, l.length ≤ 100
  klen : (keyOf how str bw es).length ≤ 1000
  kent : ∀ x ∈ keyOf how str bw es, 0 ≤ x ∧ x ≤ 70000
  wlen : (weightedS how es).length ≤ 100
  split : splitS (keyOf how str bw es) = levOf how str bw es
theorem lev_all (how : How) (str : Int) (bw : Bool) (es : List Elem) (hs : 1 ≤ str ∧ str ≤ 4) (hg : es.length ≤ 20 ∧ ∀ e ∈ es, GoodE e) : LevAll how str bw es := by
  have h1 := lev_good how str bw (weightedS how es) (weighted_good how es hg.2)
  have h2 := lev_num how str bw (weightedS how es) hs
  have h3 := weighted_len how es hg.2
  have hw : (weightedS how es).length ≤ 100 := by omega
  have hne : levOf how str bw es ≠ [] := by unfold levOf levelsS; exact List.cons_ne_nil _ _
  have hlen : ∀ l ∈ levOf how str bw es, l.length ≤ 100 := fun l hl => by have := (h1 l hl).2; omega
  have hle : (levOf how str bw es).length ≤ 4 := by unfold levOf; omega
  refine ⟨hne, h2, hle, fun l hl => (h1 l hl).1, hlen, ?_, key_ent _ fun l hl => (h1 l hl).1, hw, split_key _ hne fun l hl => (h1 l hl).1⟩
  have := keyS_len (levOf how str bw es) hlen
  unfold keyOf; omega
theorem cmp_all {how : How} {str : Int} {bw : Bool} {e e' : List Elem} (a : LevAll how str bw e) (b : LevAll how str bw e') : cmpLv (levelsS how str bw (weightedS how e)) (levelsS how str bw (weightedS how e')) = cmpS (keyOf how str bw e) (keyOf how str bw e') :=
  (cmp_key (levOf how str bw e) (levOf how str bw e') a.ent b.ent (a.num.trans b.num.symm)).symm
theorem oct_all {how : How} {str : Int} {bw : Bool} {e e' : List Elem} (a : LevAll how str bw e) (b : LevAll how str bw e') : cmpS (octS (keyOf how str bw e)) (octS (keyOf how str bw e')) = cmpS (keyOf how str bw e) (keyOf how str bw e') :=
  cmp_oct _ _ a.kent b.kent
theorem sum_oct (key : List Int) : (key.map octN).sum = ((octS key).length : Int) := by
  have h := oct_sum key 0
  have e : ∀ (l : List Int) (n : Int), l.foldl (· + ·) n = n + l.sum := by
    intro l
    induction l with
    | nil => intro n; simp
    | cons x l ih => intro n; rw [List.foldl_cons, ih, List.sum_cons]; omega
  rw [e] at h
  omega
theorem rd_two {g h : Heap} {L a : Addr} {news : List (Addr × Obj)} {d : Int} {t u : Tok} {n : Nat} (N : News g L h news) (hm : (a, listOf #[Value.int d t, Value.int d u] n) ∈ news) : Rd h (.ref a) (.list [.int d, .int d]) :=
  Rf.at (tl := [(a, listOf #[Value.int d t, Value.int d u] n)]) (Rf.list (.head _) (.cons .int (.cons .int .nil))) N (fun p hp => by rw [List.mem_singleton.mp hp]; exact hm)
theorem rd_ints_in {g h : Heap} {L a : Addr} {news : List (Addr × Obj)} {ns : List Int} {vs : List Value} {n : Nat} (N : News g L h news) (hm : (a, listOf (List.toArray vs) n) ∈ news) (hI : IntsAre vs ns) : Rd h (.ref a) (lP ns) :=
  Rf.at (tl := [(a, listOf (List.toArray vs) n)]) (Rf.list (.head _) (RfAll.ints hI)) N (fun p hp => by rw [List.mem_singleton.mp hp]; exact hm)
theorem oct_bytes {key : List Int} (hk : ∀ x ∈ key, 0 ≤ x ∧ x ≤ 70000) : KBw.bInts (byteArr (octS key)) = octS key := KBa.ints_make (octS_in key fun x hx => ⟨(hk x hx).1, Int.lt_of_le_of_lt (hk x hx).2 (by decide)⟩)
theorem oct_size {key : List Int} (hk : key.length ≤ 1000) : (byteArr (octS key)).size ≤ 7000 := by
  rw [byteArr_size]
  have := octS_len key
  omega
theorem oct_le {key : List Int} (hk : key.length ≤ 1000) : (octS key).length ≤ 10000 := by
  have := octS_len key
  omega
end

section
theorem top_off_LW : True := by
  w_top off
  exact trivial
theorem storeX_LT {M : Model} {A : Around} {E : Value → Shared → Prop} {s : Shared} {h₀ : Heap} {L a : Addr} {m : Str → Option Value} {cn : Str} {cs : Scope} {ccd : Value} {cl : List (Str × Addr)} {x : Str} {v : Value} {Q : Unit → Shared → Prop} {news : List (Addr × Obj)}
    (F : Fr h₀ L s.heap m) (N : News h₀ L s.heap news) (h : ∀ h' tk', Fr h₀ L h' (fun y => if y = x then some v else m y) → News h₀ L h' news → Q () { s with heap := h', toks := tk' })
    (hk : cs.kind = .function := by rfl) (hx : (envX cn cs L a ccd cl).kindOf x = some .local := by rfl) : wpAny M A (storeName (envX cn cs L a ccd cl) x v) Q E s := storeX_L F N (fun h' => h h' _) hk hx
local macro_rules | `(tactic| walk_at "storeName") => `(tactic| (k_here; k_dflt (refine' storeX_LT ?F ?N ?_ ?a ?b; (case F => k_asm); (case N => k_asm); (case a => rfl); (case b => rfl); k_whole; intro h' tk' F' N'; (try k_sweep))))
def cellOf (n : Int) : Int := (if n < 0 then -n else n).fmod (10 ^ Int.toNat 6)
theorem cellOf_range (n : Int) : 0 ≤ cellOf n ∧ cellOf n < 1000000 := by
  have e : cellOf n = (if n < 0 then -n else n) % 1000000 := Int.fmod_eq_emod_of_nonneg _ (by decide)
  rw [e]; exact ⟨Int.emod_nonneg _ (by decide), Int.emod_lt_of_pos _ (by decide)⟩
def OptIn (g : Heap) (tl : List (Addr × Obj)) (v : Value) (how : How) (str : Int) (bw : Bool) : Prop := ∀ h : Heap, (∀ b o, g.get? b = some o → h.get? b = some o) → (∀ p ∈ tl, h.get? p.1 = some p.2) → OptAt h v how str bw
theorem OptIn.mk {K : Frag} {g h₁ : Heap} {L : Addr} {all : List (Addr × Obj)} {x d : Addr} (fa : Addr) {es : List DictEntry} {n : Nat} {how : How} {str : Int} {bw : Bool} {u1 u2 u3 : Tok} {fn : Nat} {fd : Option Addr} {fs : Array (Option Value)} (_N : News g L h₁ all) (X : K.In g) (_hx : (x, instObj 33 d) ∈ all) (_hd : (d, dictOf es n) ∈ all)
    (a1 : ∃ t, getL (Str.ofString "how") es = some (some (.str how.str t))) (a2 : ∃ t, getL (Str.ofString "strength") es = some (some (.int str t))) (a3 : getL (Str.ofString "is_backwards") es = some (some (.bool bw))) (a4 : ∃ t, getL (Str.ofString "case_first") es = some (some (.str Str.empty t))) (a5 : getL (Str.ofString "has_case_level") es = some (some (.bool false))) (a6 : getL (Str.ofString "reorder") es = some (some .none)) (a7 : getL (Str.ofString "factors") es = some (some (.ref fa)))
    (hf : K.lookup fa = some ⟨.type "tuple", fd, .seq #[.int 1 u1, .int 1 u2, .int 1 u3] fn, fs⟩) : OptIn g [(x, instObj 33 d), (d, dictOf es n)] (.ref x) how str bw := fun h hk hp =>
  let ⟨t1, b1⟩ := a1; let ⟨t2, b2⟩ := a2; let ⟨t4, b4⟩ := a4
  ⟨x, _, es, n, t1, t2, t4, fa, u1, u2, u3, rfl, ⟨hp _ (.head _), rfl, rfl, hp _ (.tail _ (.head _))⟩, b1, b2, a3, b4, a5, a6, a7, ⟨_, hk _ _ (X _ _ hf), rfl, _, rfl⟩⟩
theorem OptIn.mono {g : Heap} {tl tl' : List (Addr × Obj)} {v : Value} {how : How} {str : Int} {bw : Bool} (o : OptIn g tl v how str bw) (h : ∀ p ∈ tl, p ∈ tl') : OptIn g tl' v how str bw := fun h' hk hp => o h' hk fun p q => hp p (h p q)
theorem OptIn.at {g h : Heap} {L : Addr} {m : Str → Option Value} {tl news : List (Addr × Obj)} {v : Value} {how : How} {str : Int} {bw : Bool} (o : OptIn g tl v how str bw) (F : Fr g L h m) (N : News g L h news) (hs : ∀ p ∈ tl, p ∈ news) : OptAt h v how str bw := o h F.keep fun p q => (N p (hs p q)).1
theorem init_frame {h₀ h : Heap} {L : Addr} {ps : List (Str × Value)} {v0 v1 v2 v3 v4 v5 v6 v7 v8 : Value} (F : Fr h₀ L h (fun y => List.lookup y ps)) (e : ps = [((Str.ofString "factors"), v8), ((Str.ofString "reorder"), v7), ((Str.ofString "is_numeric"), v6), ((Str.ofString "has_case_level"), v5), ((Str.ofString "case_first"), v4), ((Str.ofString "is_backwards"), v3), ((Str.ofString "strength"), v2), ((Str.ofString "how"), v1), ((Str.ofString "self"), v0)]) :
    Fr h₀ L h (fun y => List.lookup y [((Str.ofString "factors"), v8), ((Str.ofString "reorder"), v7), ((Str.ofString "is_numeric"), v6), ((Str.ofString "has_case_level"), v5), ((Str.ofString "case_first"), v4), ((Str.ofString "is_backwards"), v3), ((Str.ofString "strength"), v2), ((Str.ofString "how"), v1), ((Str.ofString "self"), v0)]) := e ▸ F
set_option maxHeartbeats 16000000 in
noncomputable def SLW : { P : Prop // PLift P → PySem.Challenge.rw_nt0009_01.Holds } := by
  refine ⟨?P, fun hNext0 => ?_⟩
  rotate_left
  · refine hd ?_
    k_go0
    (all_goals (try k_fold))
    (rename IntsAre _ _ => hSc); (rename ¬ _ < _ => hlen63); (rename Frag.In _ _ => KX)
    (rename Well _ _ _ _ => z1); (rename Reads _ _ _ _ => z2); (rename ReadsAll _ _ _ _ => z3); (rename Tables _ _ _ _ => z4); (rename TopE _ _ _ _ => z5); (rename TopW _ _ _ => z6); (rename BMod _ _ _ _ _ => z7); (rename LooseAre _ _ _ => z8); (rename Flt.MathXP _ _ _ => z9)
    clear z1 z2 z3 z4 z5 z6 z7 z8 z9
    (rename Spec.Shape.has _ _ = _ => z1); (rename PyData.layableAll0 _ = _ => z2); (rename PyData.layable0 _ = _ => z3); (rename WShape.hasAll _ _ _ = _ => z4); (rename WData.layableAll _ = _ => z5)
    clear z1 z2 z3 z4 z5
    ((try with_reducible show wpAny _ _ _ _ _ _); (try k_fold))
    (repeat' ((((fail_if_success (with_reducible show wpAny _ _ (isTrue (Expr.BoolOp _ _ _) _ _) _ _ _)); (((fail_if_success (with_reducible show wpAny _ _ (call (Value.ref _) _) _ _ _)); (fail_if_success (with_reducible show wpAny _ _ (exec (Stmt.While _ _ _ _) _) _ _ _)))))); (first | (k_unfold; (try dsimp only)) | (k_end; wrow_close) | walk1 | (dsimp only; walk1) | (leave1; walk_say "STEP leave1"; try dsimp only) | fail "no step")))
    (rename Fr _ _ _ _ => lF); (rename News _ _ _ _ => lN); (rename IntsAre _ _ => hS14)
    have hS14l := hS14.length
    generalize hsc : (List.take 14 _ : List Int) = sc at *
    have hscl : sc.length ≤ 14 := by omega
    refine comp_list (fun i => ((sc.take i).map cellOf).map .int) rfl lF lN (.inr ⟨_, .head _, rfl, _, rfl⟩) (by rw [hS14l]; first | exact fit100 (by assumption) | exact fit1000 (by assumption) | exact fit500 (by assumption) | (rw [sizeLine_eq]; omega)) rfl ?_ ?_
    · intro i v ys tl I' oI C oC D₂ m₂ h tk E' hv hR hC hx F₁ N₁ off ne
      ((try with_reducible show wpAny _ _ _ _ _ _); (try k_fold))
      obtain ⟨x, t, rfl, hx2⟩ := hS14.at i v hv
      have hs1 := map_take_succ cellOf sc i _ hx2
      clear lF lN
      (try k_fold)
      k_steps
      (rename Fr _ _ _ _ => F9); (rename News _ _ _ _ => N9)
      refine LCg.CompEnd.intro F9 N9 _ (fun _ h => h) off (.inr ⟨_, List.mem_append.mpr (.inr (.head _)), rfl, _, rfl⟩) ⟨tl, rfl, ?_⟩
      rw [hs1, List.map_append]; exact hR.append (.cons Rf.int .nil)
    · intro g9 tl ys hR
      intro D₂ h9 tk9 F9 N9 o9
      rw [show sc.take _ = sc by rw [List.take_of_length_le]; rw [hS14l]; exact Nat.le_refl _] at hR
      clear lF lN
      have hcr : ∀ c ∈ sc.map cellOf, 0 ≤ c ∧ c < 1000000 := by
        intro c hc
        obtain ⟨n, _, rfl⟩ := List.mem_map.mp hc
        exact cellOf_range n
      have hcl : (sc.map cellOf).length ≤ 14 := by rw [List.length_map]; exact hscl
      generalize hcs : sc.map cellOf = cs at *
      have hI : IntsAre ys cs := rfAll_ints N9 (fun p hp => .tail _ (List.mem_append.mpr (.inl hp))) hR
      have hyl := hI.length
      have N8 := News.sub (b := [(D₂, LCg.lst ys)]) N9 (List.forall_mem_cons.mpr ⟨.head _, List.forall_mem_nil _⟩)
      clear N9 o9 hR
      (repeat' ((fail_if_success (with_reducible show wpAny _ _ (eval (Expr.Subscript (Expr.List _ _) _ _) _) _ _ _)); (((fail_if_success (with_reducible show wpAny _ _ (isTrue (Expr.BoolOp _ _ _) _ _) _ _ _)); (((fail_if_success (with_reducible show wpAny _ _ (call (Value.ref _) _) _ _ _)); (fail_if_success (with_reducible show wpAny _ _ (exec (Stmt.While _ _ _ _) _) _ _ _)))))); (first | (k_unfold; (try dsimp only)) | (k_end; wrow_close) | walk1 | (dsimp only; walk1) | (leave1; walk_say "STEP leave1"; try dsimp only) | fail "no step")))
      (rename Fr _ _ _ _ => lF); (rename News _ _ _ _ => lN)
      have hw0 : 0 ≤ (cs ++ [0]).getD 0 0 := by
        cases cs with
        | nil => exact Int.le_refl _
        | cons c cs => exact (hcr c (.head _)).1
      simp only [Int.toNat_zero] at lF ⊢
      generalize hwh : (cs ++ [0]).getD 0 0 = wh at *
      refine cut_val (fun v => ∃ (how : How) (t : Tok), v = .str how.str t) [(D₂, LCg.lst ys)] lF ?_ ?_
      · k_steps
        all_goals ((rename Fr _ _ _ _ => F9); (rename News _ _ _ _ => N9))
        · with_unfolding_all exact CutPost.mk ⟨.ni, _, rfl⟩ F9 N9 (List.forall_mem_cons.mpr ⟨by k_mem, List.forall_mem_nil _⟩)
        · with_unfolding_all exact CutPost.mk ⟨.bl, _, rfl⟩ F9 N9 (List.forall_mem_cons.mpr ⟨by k_mem, List.forall_mem_nil _⟩)
        · with_unfolding_all exact CutPost.mk ⟨.sh, _, rfl⟩ F9 N9 (List.forall_mem_cons.mpr ⟨by k_mem, List.forall_mem_nil _⟩)
        · with_unfolding_all exact CutPost.mk ⟨.st, _, rfl⟩ F9 N9 (List.forall_mem_cons.mpr ⟨by k_mem, List.forall_mem_nil _⟩)
      · intro v h tk hp9a F₁ N₁
        ((try with_reducible show wpAny _ _ _ _ _ _); (try k_fold))
        obtain ⟨how, th, rfl⟩ := hp9a
        clear lF lN
        try dsimp only
        (repeat' ((fail_if_success (with_reducible show wpAny _ _ (execs (Stmt.Assign [Expr.Attribute _ _ _] _ _ :: _) _) _ _ _)); (((fail_if_success (with_reducible show wpAny _ _ (isTrue (Expr.BoolOp _ _ _) _ _) _ _ _)); (((fail_if_success (with_reducible show wpAny _ _ (call (Value.ref _) _) _ _ _)); (fail_if_success (with_reducible show wpAny _ _ (exec (Stmt.While _ _ _ _) _) _ _ _)))))); (first | (k_unfold; (try dsimp only)) | (k_end; wrow_close) | walk1 | (dsimp only; walk1) | (leave1; walk_say "STEP leave1"; try dsimp only) | fail "no step")))
        (rename Fr _ _ _ _ => lF)
        have F7 := init_frame lF (by with_unfolding_all rfl)
        clear lF
        generalize (_ + List.length _) = tk5
        (repeat' ((fail_if_success (with_reducible show wpAny _ _ (eval (Expr.Subscript (Expr.List _ _) _ _) _) _ _ _)); (((fail_if_success (with_reducible show wpAny _ _ (isTrue (Expr.BoolOp _ _ _) _ _) _ _ _)); (((fail_if_success (with_reducible show wpAny _ _ (call (Value.ref _) _) _ _ _)); (fail_if_success (with_reducible show wpAny _ _ (exec (Stmt.While _ _ _ _) _) _ _ _)))))); (first | (k_unfold; (try dsimp only)) | (k_end; wrow_close) | walk1 | (dsimp only; walk1) | (leave1; walk_say "STEP leave1"; try dsimp only) | fail "no step")))
        (try dsimp only)
        (rename Fr _ _ _ _ => lF); (rename News _ _ _ _ => lN); (rename IntsAre _ _ => hC1)
        have hOpt : OptIn _ _ _ how (1 + (wh.fdiv 4).fmod 4) ((wh.fdiv 16).fmod 2 == 1) := OptIn.mk 22 lN KX (.tail _ (.head _)) (.tail _ (.tail _ (.head _))) ⟨_, rfl⟩ ⟨_, rfl⟩ rfl ⟨_, rfl⟩ rfl rfl rfl rfl
        have hstr : 1 ≤ 1 + (wh.fdiv 4).fmod 4 ∧ 1 + (wh.fdiv 4).fmod 4 ≤ 4 := by
          have h1 := fmod_lo (wh.fdiv 4) (show (0 : Int) < 4 by decide)
          have h2 := fmod_hi (wh.fdiv 4) (show (0 : Int) < 4 by decide)
          omega
        generalize hstrE : 1 + (wh.fdiv 4).fmod 4 = str at *
        generalize hbwE : ((wh.fdiv 16).fmod 2 == 1) = bw at *
        have hpk : ∃ tlO, OptIn _ tlO _ how str bw ∧ News _ _ _ ((_, listOf (List.toArray _) 0) :: (D₂, LCg.lst ys) :: tlO) := ⟨_, hOpt, News.sub lN (List.forall_mem_cons.mpr ⟨.head _, List.forall_mem_cons.mpr ⟨.tail _ (.tail _ (.tail _ (.tail _ (.head _)))), List.forall_mem_cons.mpr ⟨.tail _ (.head _), List.forall_mem_cons.mpr ⟨.tail _ (.tail _ (.head _)), List.forall_mem_nil _⟩⟩⟩⟩)⟩
        clear hOpt lN
        obtain ⟨tlO, hOpt, lN⟩ := hpk
        generalize hc1 : List.take _ (List.drop 1 cs) = c1 at *
        have hc1l : c1.length ≤ 14 := by omega
        have hc1r : ∀ c ∈ c1, 0 ≤ c := fun c hc => (hcr c (List.mem_of_mem_drop (List.mem_of_mem_take (hc1 ▸ hc)))).1
        have hC1l := hC1.length
        clear hstrE hbwE hwh
        refine comp_list (fun i => (c1.take i).map (fun c => eP (elemOf c))) rfl lF lN (.inr ⟨_, .head _, rfl, _, rfl⟩) (by rw [hC1l]; first | exact fit100 (by assumption) | exact fit1000 (by assumption) | exact fit500 (by assumption) | (rw [sizeLine_eq]; omega)) rfl ?_ ?_
        · intro i v ys tl I' oI C oC D₂ m₂ h tk E' hv hR hC hx F₁ N₁ off ne
          ((try with_reducible show wpAny _ _ _ _ _ _); (try k_fold))
          obtain ⟨x, t, rfl, hx2⟩ := hC1.at i v hv
          have hs1 := map_take_succ (fun c => eP (elemOf c)) c1 i _ hx2
          clear lF lN
          (try k_fold)
          (repeat' ((((fail_if_success (with_reducible show wpAny _ _ (isTrue (Expr.BoolOp _ _ _) _ _) _ _ _)); (((fail_if_success (with_reducible show wpAny _ _ (call (Value.ref _) _) _ _ _)); (fail_if_success (with_reducible show wpAny _ _ (exec (Stmt.While _ _ _ _) _) _ _ _)))))); (first | (k_unfold; (try dsimp only)) | (k_end; wrow_close) | walk1 | (dsimp only; walk1) | (leave1; walk_say "STEP leave1"; try dsimp only) | fail "no step")))
          with_unfolding_all refine' Con.use (con_element x (hc1r x (List.mem_of_getElem? hx2))) ?k1 ?k2 ?k3 ?k4 ?k5 ?kK ?kP ?kd ?ku ?_
          (((((case k1 => k_asm); (case k2 => k_asm); (case k3 => k_asm); (case k4 => k_asm); (case k5 => k_asm); (case kK => first | exact rfl | assumption))); (case kd => decide); (case ku => decide)))
          case kP => exact ⟨_, rfl⟩
          intro r tl2 h9 tk9 F9 N9 of9 P9
          clear N₁
          (repeat' ((((fail_if_success (with_reducible show wpAny _ _ (isTrue (Expr.BoolOp _ _ _) _ _) _ _ _)); (((fail_if_success (with_reducible show wpAny _ _ (call (Value.ref _) _) _ _ _)); (fail_if_success (with_reducible show wpAny _ _ (exec (Stmt.While _ _ _ _) _) _ _ _)))))); (first | (k_unfold; (try dsimp only)) | (k_end; wrow_close) | walk1 | (dsimp only; walk1) | (leave1; walk_say "STEP leave1"; try dsimp only) | fail "no step")))
          (rename Fr _ _ _ _ => F8); (rename News _ _ _ _ => N8)
          with_unfolding_all exact compEnd_call F8 N8 off of9 (fun l hl => .inr ⟨_, hl _ (.head _), rfl, _, rfl⟩) hR P9 hs1
        · intro g9 tlE ys hR
          intro D₂ h9 tk9 F9 N9 o9
          clear lF lN
          rw [show c1.take _ = c1 by rw [List.take_of_length_le]; rw [hC1l]; exact Nat.le_refl _] at hR
          (repeat' ((((fail_if_success (with_reducible show wpAny _ _ (isTrue (Expr.BoolOp _ _ _) _ _) _ _ _)); (((fail_if_success (with_reducible show wpAny _ _ (call (Value.ref _) _) _ _ _)); (fail_if_success (with_reducible show wpAny _ _ (exec (Stmt.While _ _ _ _) _) _ _ _)))))); (first | (k_unfold; (try dsimp only)) | (k_end; wrow_close) | walk1 | (dsimp only; walk1) | (leave1; walk_say "STEP leave1"; try dsimp only) | fail "no step")))
          (try dsimp only)
          (rename Fr _ _ _ _ => lF); (rename News _ _ _ _ => lN); (rename IntsAre _ _ => hC2)
          clear hc1
          generalize hc2 : List.take _ (List.drop _ cs) = c2 at *
          have hc2l : c2.length ≤ 14 := by rw [← hc2, List.length_take, List.length_drop]; omega
          have hc2r : ∀ c ∈ c2, 0 ≤ c := fun c hc => (hcr c (List.mem_of_mem_drop (List.mem_of_mem_take (hc2 ▸ hc)))).1
          have hC2l := hC2.length
          have N8 := News.sub (b := (_, listOf (List.toArray _) 0) :: (D₂, LCg.lst ys) :: (_, LCg.lst _) :: (tlE ++ tlO)) lN (List.forall_mem_cons.mpr ⟨.head _, List.forall_mem_cons.mpr ⟨.tail _ (.head _), List.forall_mem_cons.mpr ⟨.tail _ (.tail _ (List.mem_append.mpr (.inr (.tail _ (.head _))))), fun p hp => .tail _ (.tail _ (List.mem_append.mpr ((List.mem_append.mp hp).elim .inl fun q => .inr (.tail _ (.tail _ q)))))⟩⟩⟩)
          have hR0 := hR
          have hRow0 : RL ((D₂, LCg.lst ys) :: tlE) (.ref D₂) _ := RL.mk (.head _) (hR.mono fun p hp => .tail _ hp)
          have hRow0l := hR.length
          clear lN o9 hR
          (try clear N9)
          (try clear F9)
          refine comp_list (fun i => (c2.take i).map (fun c => eP (elemOf c))) rfl lF N8 (.inr ⟨_, .head _, rfl, _, rfl⟩) (by rw [hC2l]; first | exact fit100 (by assumption) | exact fit1000 (by assumption) | exact fit500 (by assumption) | (rw [sizeLine_eq]; omega)) rfl ?_ ?_
          · intro i v ys tl I' oI C oC D₂ m₂ h tk E' hv hR hC hx F₁ N₁ off ne
            ((try with_reducible show wpAny _ _ _ _ _ _); (try k_fold))
            obtain ⟨x, t, rfl, hx2⟩ := hC2.at i v hv
            have hs1 := map_take_succ (fun c => eP (elemOf c)) c2 i _ hx2
            clear lF N8
            (try k_fold)
            (repeat' ((((fail_if_success (with_reducible show wpAny _ _ (isTrue (Expr.BoolOp _ _ _) _ _) _ _ _)); (((fail_if_success (with_reducible show wpAny _ _ (call (Value.ref _) _) _ _ _)); (fail_if_success (with_reducible show wpAny _ _ (exec (Stmt.While _ _ _ _) _) _ _ _)))))); (first | (k_unfold; (try dsimp only)) | (k_end; wrow_close) | walk1 | (dsimp only; walk1) | (leave1; walk_say "STEP leave1"; try dsimp only) | fail "no step")))
            with_unfolding_all refine' Con.use (con_element x (hc2r x (List.mem_of_getElem? hx2))) ?k1 ?k2 ?k3 ?k4 ?k5 ?kK ?kP ?kd ?ku ?_
            (((((case k1 => k_asm); (case k2 => k_asm); (case k3 => k_asm); (case k4 => k_asm); (case k5 => k_asm); (case kK => first | exact rfl | assumption))); (case kd => decide); (case ku => decide)))
            case kP => exact ⟨_, rfl⟩
            intro r tl2 h9 tk9 F9 N9 of9 P9
            clear N₁
            (repeat' ((((fail_if_success (with_reducible show wpAny _ _ (isTrue (Expr.BoolOp _ _ _) _ _) _ _ _)); (((fail_if_success (with_reducible show wpAny _ _ (call (Value.ref _) _) _ _ _)); (fail_if_success (with_reducible show wpAny _ _ (exec (Stmt.While _ _ _ _) _) _ _ _)))))); (first | (k_unfold; (try dsimp only)) | (k_end; wrow_close) | walk1 | (dsimp only; walk1) | (leave1; walk_say "STEP leave1"; try dsimp only) | fail "no step")))
            (rename Fr _ _ _ _ => F8); (rename News _ _ _ _ => N8)
            with_unfolding_all exact compEnd_call F8 N8 off of9 (fun l hl => .inr ⟨_, hl _ (.head _), rfl, _, rfl⟩) hR P9 hs1
          · intro g9 tlE2 ys2 hR
            intro D₃ h9 tk9 F9 N9 o9
            clear lF N8
            rw [show c2.take _ = c2 by rw [List.take_of_length_le]; rw [hC2l]; exact Nat.le_refl _] at hR
            (repeat' ((((fail_if_success (with_reducible show wpAny _ _ (isTrue (Expr.BoolOp _ _ _) _ _) _ _ _)); (((fail_if_success (with_reducible show wpAny _ _ (call (Value.ref _) _) _ _ _)); (fail_if_success (with_reducible show wpAny _ _ (exec (Stmt.While _ _ _ _) _) _ _ _)))))); (first | (k_unfold; (try dsimp only)) | (k_end; wrow_close) | walk1 | (dsimp only; walk1) | (leave1; walk_say "STEP leave1"; try dsimp only) | fail "no step")))
            (try dsimp only)
            (rename Fr _ _ _ _ => lF); (rename News _ _ _ _ => lN)
            have N8 := News.sub (b := (_, listOf (List.toArray [Value.ref D₂, Value.ref D₃]) 0) :: (D₃, LCg.lst ys2) :: (D₂, LCg.lst ys) :: (_, LCg.lst _) :: (tlE2 ++ (tlE ++ tlO))) lN (List.forall_mem_cons.mpr ⟨.head _, List.forall_mem_cons.mpr ⟨.tail _ (.head _), List.forall_mem_cons.mpr ⟨.tail _ (.tail _ (List.mem_append.mpr (.inr (.tail _ (.head _))))), List.forall_mem_cons.mpr ⟨.tail _ (.tail _ (List.mem_append.mpr (.inr (.tail _ (.tail _ (.head _)))))), fun p hp => .tail _ (.tail _ (List.mem_append.mpr ((List.mem_append.mp hp).elim .inl fun q => .inr (.tail _ (.tail _ (.tail _ q))))))⟩⟩⟩⟩)
            have hR1 := hR
            have hRow1 : RL ((D₃, LCg.lst ys2) :: tlE2) (.ref D₃) _ := RL.mk (.head _) (hR.mono fun p hp => .tail _ hp)
            have hRow1l := hR.length
            clear lN o9
            with_unfolding_all refine' Con.use (con_element wh hw0) ?k1 ?k2 ?k3 ?k4 ?k5 ?kK ?kP ?kd ?ku ?_
            (((((case k1 => k_asm); (case k2 => k_asm); (case k3 => k_asm); (case k4 => k_asm); (case k5 => k_asm); (case kK => first | exact rfl | assumption))); (case kd => decide); (case ku => decide)))
            case kP => exact ⟨_, rfl⟩
            intro r tlW h9 tk9 F9 N9 of9 P9
            clear N8
            have hrW : ∃ a, r = .ref a := by
              obtain ⟨a, _, _, _, e, _⟩ := rd_elem (P9.at N9 fun p hp => List.mem_append.mpr (.inr hp))
              exact ⟨a, e⟩
            obtain ⟨aW, rfl⟩ := hrW
            (repeat' ((((fail_if_success (with_reducible show wpAny _ _ (isTrue (Expr.BoolOp _ _ _) _ _) _ _ _)); (((fail_if_success (with_reducible show wpAny _ _ (call (Value.ref _) _) _ _ _)); (fail_if_success (with_reducible show wpAny _ _ (exec (Stmt.While _ _ _ _) _) _ _ _)))))); (first | (k_unfold; (try dsimp only)) | (k_end; wrow_close) | walk1 | (dsimp only; walk1) | (leave1; walk_say "STEP leave1"; try dsimp only) | fail "no step")))
            (rename Fr _ _ _ _ => lF); (rename News _ _ _ _ => lN); (rename News _ _ _ ((_, W.listOf #[Value.ref aW] 0) :: _) => lO)
            have hlt := Heap.lt_size (lO _ (.tail _ (List.mem_append.mpr (.inl (.head _))))).1
            (rename @LT.lt Nat _ D₃ _ ∧ _ => l9)
            have l8 := ktn_ltOf l9.2
            clear lO
            with_unfolding_all refine append_l3 lF lN ?_ ?_ ?_ (by rw [sizeLine_eq]; simp) ?_
            · exact Nat.ne_of_gt hlt
            · refine List.forall_mem_cons.mpr ⟨Nat.ne_of_lt l9.1, fun p hp => Nat.ne_of_lt (l8 p ?_)⟩
              simp only [List.mem_cons, List.mem_append] at hp ⊢
              rcases hp with hp | hp | hp | hp | hp <;> simp [hp]
            · exact fun p hp => of9 p hp _ (.head _)
            intro h8 n8 F8 N8
            revert F8 N8
            (repeat (rename Fr _ _ _ _ => x9; clear x9)); (repeat (rename News _ _ _ _ => x9; clear x9))
            intro F8 N8
            rename_i law1y0 law1y1 law1y2 law1y3 law1y4 law1y5 law1y6 law1y7 law1y8 law1y9 law1y10 law1y11 law1y12 law1y13 law1y14 law1y15 law1y16
              law1y17 law1y18 law1y19 law1y20 law1y21 law1y22 law1y23 law1y24 law1y25 law1y26 law1y27 law1y28 law1y29 law1y30 law1y31 law1y32 law1y33
              law1y34 law1y35 law1y36 law1y37 law1y38 law1y39 law1y40 law1y41 law1y42 law1y43 law1y44 law1y45 law1y46 law1y47 law1y48 law1y49 law1y50
              law1y51 law1y52 law1y53 law1y54 law1y55 law1y56 law1y57 law1y58 law1y59 law1y60 law1y61 law1y62 law1y63 law1y64 law1y65 law1y66 law1y67
              law1y68 law1y69 law1y70 law1y71 law1y72 law1y73 law1y74 law1y75 law1y76 law1y77 law1y78 law1y79 law1y80 law1y81 law1y82 law1y83 law1y84
              law1y85 law1y86 law1y87 law1y88 law1y89 law1y90 law1y91 law1y92 law1y93 law1y94 law1y95 law1y96 law1y97 law1y98 law1y99 law1y100 law1y101
              law1y102 law1y103 law1y104 law1y105 law1y106 law1y107 law1y108 law1y109 law1y110 law1y111 law1y112 law1y113 law1y114 law1y115 law1y116
              law1y117 law1y118
            revert law1y0 law1y1 law1y2 law1y3 law1y4 law1y5 law1y6 law1y7 law1y8 law1y9 law1y10 law1y11 law1y12 law1y13 KX law1y14 law1y15 law1y16
              law1y17 law1y18 law1y19 law1y20 law1y21 law1y22 law1y23 law1y24 law1y25 law1y26 law1y27 hSc law1y28 hlen63 law1y29 law1y30 law1y31 law1y32
              law1y33 law1y34 law1y35 law1y36 law1y37 law1y38 law1y39 sc hsc hS14 law1y40 law1y41 hS14l hscl law1y42 tl law1y43 law1y44 law1y45 law1y46
              cs hcs hcr hcl hI hyl law1y47 law1y48 law1y49 law1y50 law1y51 law1y52 law1y53 law1y54 law1y55 law1y56 law1y57 wh hw0 h tk law1y58 law1y59
              how th law1y60 law1y61 law1y62 law1y63 law1y64 law1y65 law1y66 law1y67 law1y68 law1y69 law1y70 law1y71 law1y72 law1y73 law1y74 law1y75
              law1y76 law1y77 law1y78 law1y79 law1y80 lifted qk ek tk5 law1y81 law1y82 law1y83 law1y84 law1y85 law1y86 law1y87 law1y88 law1y89 law1y90
              law1y91 law1y92 law1y93 law1y94 law1y95 law1y96 str hstr bw law1y97 tlO hOpt c1 hC1 law1y98 law1y99 hc1l hc1r hC1l law1y100 tlE ys D₂
              law1y101 law1y102 law1y103 law1y104 law1y105 law1y106 c2 hc2 hC2 law1y107 law1y108 hc2l hc2r hC2l hR0 hRow0 hRow0l g9 tlE2 ys2 hR D₃
              law1y109 law1y110 law1y111 law1y112 l9 law1y113 law1y114 hR1 hRow1 hRow1l tlW h9 tk9 of9 aW P9 law1y115 law1y116 law1y117 law1y118 hlt l8
              h8 n8 F8 N8
            exact hNext0.down
end

section
theorem top_off_L2 : True := by
  w_top off
  exact trivial
theorem pack1 {g g0 h : Heap} {L l ca : Addr} {vs cs' : List Value} {n : Nat} {tl : List (Addr × Obj)} {v : Value} {how : How} {str : Int} {bw : Bool} (ess : List (List Elem)) (N : News g L h ((l, W.listOf (List.toArray vs) n) :: tl)) (hR : RfAll tl vs (List.map (fun es => PyData.list (List.map eP es)) ess))
    (hg : ∀ es ∈ ess, es.length ≤ 20 ∧ ∀ e ∈ es, GoodE e) (hn : ess.length = 3) (ho : OptIn g0 tl v how str bw) (hc : (ca, LCg.lst cs') ∈ tl) : ∃ (tlR : List (Addr × Obj)) (ess : List (List Elem)) (vsR : List Value),
    News g L h ((l, W.listOf (List.toArray vsR) n) :: tlR) ∧ RfAll tlR vsR (List.map (fun es => PyData.list (List.map eP es)) ess) ∧ (∀ es ∈ ess, es.length ≤ 20 ∧ ∀ e ∈ es, GoodE e) ∧ ess.length = 3 ∧ OptIn g0 tlR v how str bw ∧ (ca, LCg.lst cs') ∈ tlR := ⟨tl, ess, vs, N, hR, hg, hn, ho, hc⟩
set_option maxHeartbeats 4000000 in
noncomputable def SL2 : { P : Prop // PLift P → SLW.1 } := by
  w_top off
  refine ⟨?P, fun hNext0 => ?_⟩
  rotate_left
  · intro law1y0 law1y1 law1y2 law1y3 law1y4 law1y5 law1y6 law1y7 law1y8 law1y9 law1y10 law1y11 law1y12 law1y13 KX law1y14 law1y15 law1y16 law1y17
      law1y18 law1y19 law1y20 law1y21 law1y22 law1y23 law1y24 law1y25 law1y26 law1y27 hSc law1y28 hlen63 law1y29 law1y30 law1y31 law1y32 law1y33 law1y34
      law1y35 law1y36 law1y37 law1y38 law1y39 sc hsc hS14 law1y40 law1y41 hS14l hscl law1y42 tl law1y43 law1y44 law1y45 law1y46 cs hcs hcr hcl hI hyl
      law1y47 law1y48 law1y49 law1y50 law1y51 law1y52 law1y53 law1y54 law1y55 law1y56 law1y57 wh hw0 h tk law1y58 law1y59 how th law1y60 law1y61 law1y62
      law1y63 law1y64 law1y65 law1y66 law1y67 law1y68 law1y69 law1y70 law1y71 law1y72 law1y73 law1y74 law1y75 law1y76 law1y77 law1y78 law1y79 law1y80
      lifted qk ek tk5 law1y81 law1y82 law1y83 law1y84 law1y85 law1y86 law1y87 law1y88 law1y89 law1y90 law1y91 law1y92 law1y93 law1y94 law1y95 law1y96
      str hstr bw law1y97 tlO hOpt c1 hC1 law1y98 law1y99 hc1l hc1r hC1l law1y100 tlE ys D₂ law1y101 law1y102 law1y103 law1y104 law1y105 law1y106 c2 hc2
      hC2 law1y107 law1y108 hc2l hc2r hC2l hR0 hRow0 hRow0l g9 tlE2 ys2 hR D₃ law1y109 law1y110 law1y111 law1y112 l9 law1y113 law1y114 hR1 hRow1 hRow1l
      tlW h9 tk9 of9 aW P9 law1y115 law1y116 law1y117 law1y118 hlt l8 h8 n8 F8 N8
    simp only [List.cons_append] at N8
    have e : ∀ l : List Int, List.map (fun c => eP (elemOf c)) l = List.map eP (List.map elemOf l) := fun l => by rw [List.map_map]; rfl
    rw [e] at hR0 hR1
    have gd : ∀ l : List Int, ∀ e ∈ l.map elemOf, GoodE e := fun l e he => by
      obtain ⟨n, _, rfl⟩ := List.mem_map.mp he
      exact elemOf_good n
    obtain ⟨tlR, ess, vsR, lN, hRows, hGood, hEl, hOptR, hCs⟩ := pack1 [c1.map elemOf, c2.map elemOf, c1.map elemOf ++ [elemOf wh]] N8
      (by
        refine .cons (Rf.list (vs := List.toArray ys) (n := ys.length) (.tail _ (.tail _ (.head _))) (hR0.mono fun p hp => by k_mem)) (.cons (Rf.list (vs := List.toArray ys2) (n := ys2.length) (.tail _ (.head _)) (hR1.mono fun p hp => by k_mem)) (.cons (Rf.list (by k_mem) ?_) .nil))
        rw [List.map_append]
        exact (hR0.mono fun p hp => by k_mem).append (.cons (P9.mono fun p hp => by k_mem) .nil))
      (by
        refine List.forall_mem_cons.mpr ⟨⟨by rw [List.length_map]; omega, gd _⟩, List.forall_mem_cons.mpr ⟨⟨by rw [List.length_map]; omega, gd _⟩, List.forall_mem_cons.mpr ⟨⟨by rw [List.length_append, List.length_map]; simp only [List.length_cons, List.length_nil]; omega, fun e he => ?_⟩, List.forall_mem_nil _⟩⟩⟩
        rcases List.mem_append.mp he with he | he
        · exact gd _ e he
        · rw [List.mem_singleton.mp he]; exact elemOf_good wh)
      rfl (hOpt.mono fun p hp => by k_mem) (.tail _ (.tail _ (.tail _ (.head _))))
    clear hR0 hR1 P9 hRow0 hRow1 hOpt N8 e gd hRow0l hRow1l of9 hc2 hc1l hc1r hC1l hc2l hc2r hC2l hC1 hC2 hw0 l8 l9 hlt
    (try dsimp only)
    (try k_fold)
    (repeat' ((((fail_if_success (with_reducible show wpAny _ _ (isTrue (Expr.BoolOp _ _ _) _ _) _ _ _)); (((fail_if_success (with_reducible show wpAny _ _ (call (Value.ref _) _) _ _ _)); (fail_if_success (with_reducible show wpAny _ _ (exec (Stmt.While _ _ _ _) _) _ _ _)))))); (first | (k_unfold; (try dsimp only)) | (k_end; wrow_close) | walk1 | (dsimp only; walk1) | (leave1; walk_say "STEP leave1"; try dsimp only) | fail "no step")))
    rename_i law2gy0 law2gy1 law2gy2 law2gy3 law2gy4 law2gy5 law2gy6 law2gy7 law2gy8 law2gy9 law2gy10 law2gy11 law2gy12 law2gy13 law2gy14 law2gy15
      law2gy16 law2gy17 law2gy18 law2gy19 law2gy20 law2gy21 law2gy22 law2gy23
    revert law1y0 law1y1 law1y2 law1y3 law1y4 law1y5 law1y6 law1y7 law1y8 law1y9 law1y10 law1y11 law1y12 law1y13 KX law1y14 law1y15 law1y16 law1y17
      law1y18 law1y19 law1y20 law1y21 law1y22 law1y23 law1y24 law1y25 law1y26 law1y27 hSc law1y28 hlen63 law1y29 law1y30 law1y31 law1y32 law1y33 law1y34
      law1y35 law1y36 law1y37 law1y38 law1y39 sc hsc hS14 law1y40 law1y41 hS14l hscl law1y42 tl law1y43 law1y44 law1y45 law1y46 cs hcs hcr hcl hI hyl
      law1y47 law1y48 law1y49 law1y50 law1y51 law1y52 law1y53 law1y54 law1y55 law1y56 law1y57 wh h tk law1y58 law1y59 how th law1y60 law1y61 law1y62
      law1y63 law1y64 law1y65 law1y66 law1y67 law1y68 law1y69 law1y70 law1y71 law1y72 law1y73 law1y74 law1y75 law1y76 law1y77 law1y78 law1y79 law1y80
      lifted qk ek tk5 law1y81 law1y82 law1y83 law1y84 law1y85 law1y86 law1y87 law1y88 law1y89 law1y90 law1y91 law1y92 law1y93 law1y94 law1y95 law1y96
      str hstr bw law1y97 tlO c1 law1y98 law1y99 law1y100 tlE ys D₂ law1y101 law1y102 law1y103 law1y104 law1y105 law1y106 c2 law1y107 law1y108 g9 tlE2
      ys2 hR D₃ law1y109 law1y110 law1y111 law1y112 law1y113 law1y114 tlW h9 tk9 aW law1y115 law1y116 law1y117 law1y118 h8 n8 tlR ess vsR hRows hGood
      hEl hOptR hCs law2gy0 law2gy1 law2gy2 law2gy3 law2gy4 law2gy5 law2gy6 law2gy7 law2gy8 law2gy9 law2gy10 law2gy11 law2gy12 law2gy13 law2gy14
      law2gy15 law2gy16 law2gy17 law2gy18 law2gy19 law2gy20 law2gy21 law2gy22 law2gy23
    exact hNext0.down
end

section
theorem top_off_L3 : True := by
  w_top off
  exact trivial
theorem names4 {g h : Heap} {L a b c d : Addr} {x : Addr × Obj} {oa ob oc od : Obj} {tl : List (Addr × Obj)} (_ : News g L h (x :: (a, oa) :: (b, ob) :: (c, oc) :: (d, od) :: tl)) : ∃ A F K R, A = a ∧ F = b ∧ K = c ∧ R = d := ⟨a, b, c, d, rfl, rfl, rfl, rfl⟩
def RowW (how : How) (es : List Elem) : PyData := .list (List.map rP (weightedS how es))
def RowL (how : How) (str : Int) (bw : Bool) (es : List Elem) : PyData := llP (levOf how str bw es)
def LG (how : How) (str : Int) (bw : Bool) (ess : List (List Elem)) (K F A : Addr) (i : Nat) (ps : List (Str × Value)) (nx : List (Addr × Obj)) : Prop :=
  ∃ (ks fs as : List Value) (nk nf na : Nat) (tl : List (Addr × Obj)), ps = [] ∧ nx = (K, W.listOf (List.toArray ks) nk) :: (F, W.listOf (List.toArray fs) nf) :: (A, W.listOf (List.toArray as) na) :: tl ∧
    RLs tl ks ((ess.take i).map (keyOf how str bw)) ∧ RfAll tl fs ((ess.take i).map (RowW how)) ∧ RfAll tl as ((ess.take i).map (RowL how str bw)) ∧ (∀ p ∈ tl, p.1 ≠ K ∧ p.1 ≠ F ∧ p.1 ≠ A)
theorem LG.zero (how : How) (str : Int) (bw : Bool) (ess : List (List Elem)) (K F A : Addr) : LG how str bw ess K F A 0 [] [(K, W.listOf #[] 0), (F, W.listOf #[] 0), (A, W.listOf #[] 0)] :=
  ⟨[], [], [], 0, 0, 0, [], rfl, rfl, .nil, .nil, .nil, List.forall_mem_nil _⟩
set_option maxHeartbeats 4000000 in
noncomputable def SL3 : { P : Prop × Prop // PLift P.1 → PLift P.2 → SL2.1 } := by
  w_top off
  refine ⟨(?A, ?B), fun hNext0 hNext1 => ?_⟩
  rotate_left 2
  · intro law1y0 law1y1 law1y2 law1y3 law1y4 law1y5 law1y6 law1y7 law1y8 law1y9 law1y10 law1y11 law1y12 law1y13 KX law1y14 law1y15 law1y16 law1y17
      law1y18 law1y19 law1y20 law1y21 law1y22 law1y23 law1y24 law1y25 law1y26 law1y27 hSc law1y28 hlen63 law1y29 law1y30 law1y31 law1y32 law1y33 law1y34
      law1y35 law1y36 law1y37 law1y38 law1y39 sc hsc hS14 law1y40 law1y41 hS14l hscl law1y42 tl law1y43 law1y44 law1y45 law1y46 cs hcs hcr hcl hI hyl
      law1y47 law1y48 law1y49 law1y50 law1y51 law1y52 law1y53 law1y54 law1y55 law1y56 law1y57 wh h tk law1y58 law1y59 how th law1y60 law1y61 law1y62
      law1y63 law1y64 law1y65 law1y66 law1y67 law1y68 law1y69 law1y70 law1y71 law1y72 law1y73 law1y74 law1y75 law1y76 law1y77 law1y78 law1y79 law1y80
      lifted qk ek tk5 law1y81 law1y82 law1y83 law1y84 law1y85 law1y86 law1y87 law1y88 law1y89 law1y90 law1y91 law1y92 law1y93 law1y94 law1y95 law1y96
      str hstr bw law1y97 tlO c1 law1y98 law1y99 law1y100 tlE ys D₂ law1y101 law1y102 law1y103 law1y104 law1y105 law1y106 c2 law1y107 law1y108 g9 tlE2
      ys2 hR D₃ law1y109 law1y110 law1y111 law1y112 law1y113 law1y114 tlW h9 tk9 aW law1y115 law1y116 law1y117 law1y118 h8 n8 tlR ess vsR hRows hGood
      hEl hOptR hCs law2gy0 law2gy1 law2gy2 law2gy3 law2gy4 law2gy5 law2gy6 law2gy7 law2gy8 law2gy9 law2gy10 law2gy11 law2gy12 law2gy13 law2gy14
      law2gy15 law2gy16 law2gy17 law2gy18 law2gy19 law2gy20 law2gy21 law2gy22 law2gy23
    (rename Fr _ _ _ _ => lF); (rename News _ _ _ _ => lN)
    obtain ⟨A, F, K, R, rfl, rfl, rfl, rfl⟩ := names4 lN
    have aK : @LT.lt Nat _ R K ∧ AllLt K tlR := by assumption
    have aF : @LT.lt Nat _ K F ∧ @LT.lt Nat _ R F ∧ AllLt F tlR := by assumption
    have aA : @LT.lt Nat _ F A ∧ @LT.lt Nat _ K A ∧ @LT.lt Nat _ R A ∧ AllLt A tlR := by assumption
    have sep : ∀ p ∈ (R, W.listOf (List.toArray vsR) n8) :: tlR, p.1 ≠ K ∧ p.1 ≠ F ∧ p.1 ≠ A := List.forall_mem_cons.mpr ⟨⟨Nat.ne_of_lt aK.1, Nat.ne_of_lt aF.2.1, Nat.ne_of_lt aA.2.2.1⟩, fun p hp => ⟨Nat.ne_of_lt (ktn_ltOf aK.2 p hp), Nat.ne_of_lt (ktn_ltOf aF.2.2 p hp), Nat.ne_of_lt (ktn_ltOf aA.2.2.2 p hp)⟩⟩
    have hKF : @Ne Nat K F := Nat.ne_of_lt aF.1
    have hKA : @Ne Nat K A := Nat.ne_of_lt aA.2.1
    have hFA : @Ne Nat F A := Nat.ne_of_lt aA.1
    clear aK aF aA
    with_unfolding_all refine for_st (vs := vsR) [(K, W.listOf #[] 0), (F, W.listOf #[] 0), (A, W.listOf #[] 0)] ((R, W.listOf (List.toArray vsR) n8) :: tlR) (LG how str bw ess K F A) [] [(Str.ofString "row"), (Str.ofString "weights"), (Str.ofString "levels"), (Str.ofString "key")] rfl lF lN ?_ ?_ ?_ (LG.zero _ _ _ _ _ _ _) (List.forall_mem_nil _) ?_ ?_
    · intro p hp
      simp only [List.cons_append, List.nil_append, List.mem_cons] at hp ⊢
      rcases hp with h | h | h | h | h <;> simp [h]
    · intro p hp b hb
      obtain ⟨s1, s2, s3⟩ := sep p hp
      simp only [List.map_cons, List.map_nil, List.mem_cons, List.not_mem_nil, or_false] at hb
      rcases hb with rfl | rfl | rfl
      · exact s1
      · exact s2
      · exact s3
    · exact fun h _ hp => ⟨_, hp _ (.head _), rfl, _, rfl⟩
    · intro i v ps u nx h tk own hv ho hlo hG F₁ N₁
      rename_i law3ty0 law3ty1
      revert law1y0 law1y1 law1y2 law1y3 law1y4 law1y5 law1y6 law1y7 law1y8 law1y9 law1y10 law1y11 law1y12 law1y13 KX law1y14 law1y15 law1y16 law1y17
        law1y18 law1y19 law1y20 law1y21 law1y22 law1y23 law1y24 law1y25 law1y26 law1y27 hSc law1y28 hlen63 law1y29 law1y30 law1y31 law1y32 law1y33
        law1y34 law1y35 law1y36 law1y37 law1y38 law1y39 sc hsc hS14 law1y40 law1y41 hS14l hscl law1y42 tl law1y43 law1y44 law1y45 law1y46 cs hcs hcr hcl
        hI hyl law1y47 law1y48 law1y49 law1y50 law1y51 law1y52 law1y53 law1y54 law1y55 law1y56 law1y57 wh law3ty0 law3ty1 law1y58 law1y59 how th law1y60
        law1y61 law1y62 law1y63 law1y64 law1y65 law1y66 law1y67 law1y68 law1y69 law1y70 law1y71 law1y72 law1y73 law1y74 law1y75 law1y76 law1y77 law1y78
        law1y79 law1y80 lifted qk ek tk5 law1y81 law1y82 law1y83 law1y84 law1y85 law1y86 law1y87 law1y88 law1y89 law1y90 law1y91 law1y92 law1y93 law1y94
        law1y95 law1y96 str hstr bw law1y97 tlO c1 law1y98 law1y99 law1y100 tlE ys D₂ law1y101 law1y102 law1y103 law1y104 law1y105 law1y106 c2 law1y107
        law1y108 g9 tlE2 ys2 hR D₃ law1y109 law1y110 law1y112 law1y113 law1y114 tlW h9 tk9 aW law1y115 law1y116 law1y118 h8 n8 tlR ess vsR hRows hGood
        hEl hOptR hCs law2gy1 law2gy4 law2gy7 law2gy9 law2gy10 law2gy12 law2gy13 law2gy14 law2gy16 law2gy17 law2gy19 law2gy20 A F K R law1y117 law2gy15
        law2gy18 law2gy2 law2gy5 law2gy8 law2gy11 law2gy21 lF lN sep hKF hKA hFA i v ps u nx h tk own hv ho hlo hG F₁ N₁
      exact hNext0.down
    · intro ps u nx h tk hG ho F₁ N₁
      rename_i law3dy0 law3dy1
      revert law1y0 law1y1 law1y2 law1y3 law1y4 law1y5 law1y6 law1y7 law1y8 law1y9 law1y10 law1y11 law1y12 law1y13 KX law1y14 law1y15 law1y16 law1y17
        law1y18 law1y19 law1y20 law1y21 law1y22 law1y23 law1y24 law1y25 law1y26 law1y27 hSc law1y28 hlen63 law1y29 law1y30 law1y31 law1y32 law1y33
        law1y34 law1y35 law1y36 law1y37 law1y38 law1y39 sc hsc hS14 law1y40 law1y41 hS14l hscl law1y42 tl law1y43 law1y44 law1y45 law1y46 cs hcs hcr hcl
        hI hyl law1y47 law1y48 law1y49 law1y50 law1y51 law1y52 law1y53 law1y54 law1y55 law1y56 law1y57 wh law3dy0 law3dy1 law1y58 law1y59 how th law1y60
        law1y61 law1y62 law1y63 law1y64 law1y65 law1y66 law1y67 law1y68 law1y69 law1y70 law1y71 law1y72 law1y73 law1y74 law1y75 law1y76 law1y77 law1y78
        law1y79 law1y80 lifted qk ek tk5 law1y81 law1y82 law1y83 law1y84 law1y85 law1y86 law1y87 law1y88 law1y89 law1y90 law1y91 law1y92 law1y93 law1y94
        law1y95 law1y96 str hstr bw law1y97 tlO c1 law1y98 law1y99 law1y100 tlE ys D₂ law1y101 law1y102 law1y103 law1y104 law1y105 law1y106 c2 law1y107
        law1y108 g9 tlE2 ys2 hR D₃ law1y109 law1y110 law1y112 law1y113 law1y114 tlW h9 tk9 aW law1y115 law1y116 law1y118 h8 n8 tlR ess vsR hRows hGood
        hEl hOptR hCs law2gy1 law2gy4 law2gy7 law2gy9 law2gy10 law2gy12 law2gy13 law2gy14 law2gy16 law2gy17 law2gy19 law2gy20 A F K R law1y117 law2gy15
        law2gy18 law2gy2 law2gy5 law2gy8 law2gy11 law2gy21 lF lN sep hKF hKA hFA ps u nx h tk hG ho F₁ N₁
      exact hNext1.down
end

section
theorem top_off_L4 : True := by
  w_top off
  exact trivial
set_option maxHeartbeats 8000000 in
noncomputable def SL4 : { P : Prop // PLift P → SL3.1.1 } := by
  w_top off
  refine ⟨?P, fun hNext0 => ?_⟩
  rotate_left
  · intro law1y0 law1y1 law1y2 law1y3 law1y4 law1y5 law1y6 law1y7 law1y8 law1y9 law1y10 law1y11 law1y12 law1y13 KX law1y14 law1y15 law1y16 law1y17
      law1y18 law1y19 law1y20 law1y21 law1y22 law1y23 law1y24 law1y25 law1y26 law1y27 hSc law1y28 hlen63 law1y29 law1y30 law1y31 law1y32 law1y33 law1y34
      law1y35 law1y36 law1y37 law1y38 law1y39 sc hsc hS14 law1y40 law1y41 hS14l hscl law1y42 tl law1y43 law1y44 law1y45 law1y46 cs hcs hcr hcl hI hyl
      law1y47 law1y48 law1y49 law1y50 law1y51 law1y52 law1y53 law1y54 law1y55 law1y56 law1y57 wh law3ty0 law3ty1 law1y58 law1y59 how th law1y60 law1y61
      law1y62 law1y63 law1y64 law1y65 law1y66 law1y67 law1y68 law1y69 law1y70 law1y71 law1y72 law1y73 law1y74 law1y75 law1y76 law1y77 law1y78 law1y79
      law1y80 lifted qk ek tk5 law1y81 law1y82 law1y83 law1y84 law1y85 law1y86 law1y87 law1y88 law1y89 law1y90 law1y91 law1y92 law1y93 law1y94 law1y95
      law1y96 str hstr bw law1y97 tlO c1 law1y98 law1y99 law1y100 tlE ys D₂ law1y101 law1y102 law1y103 law1y104 law1y105 law1y106 c2 law1y107 law1y108
      g9 tlE2 ys2 hR D₃ law1y109 law1y110 law1y112 law1y113 law1y114 tlW h9 tk9 aW law1y115 law1y116 law1y118 h8 n8 tlR ess vsR hRows hGood hEl hOptR
      hCs law2gy1 law2gy4 law2gy7 law2gy9 law2gy10 law2gy12 law2gy13 law2gy14 law2gy16 law2gy17 law2gy19 law2gy20 A F K R law1y117 law2gy15 law2gy18
      law2gy2 law2gy5 law2gy8 law2gy11 law2gy21 lF lN sep hKF hKA hFA i v ps u nx h tk own hv ho hlo hG F₁ N₁
    (have hhX := KX); revert hhX; k_fill; intro hhX; clear hhX
    ((try with_reducible show wpAny _ _ _ _ _ _); (try k_fold))
    obtain ⟨ks, fs, as, nk, nf, na, tl, rfl, rfl, hRk, hRf, hRa, hsep⟩ := hG
    change Fr _ _ h _ at F₁; change News _ _ h _ at N₁
    revert F₁ N₁
    (repeat (rename Fr _ _ _ _ => x9; clear x9)); (repeat (rename News _ _ _ _ => x9; clear x9))
    intro F₁ N₁
    obtain ⟨d, hd1, hd2⟩ := rfAll_get hRows i v hv
    obtain ⟨es, he, rfl⟩ : ∃ es, ess[i]? = some es ∧ PyData.list (List.map eP es) = d := by simpa using hd1
    have hG1 := hGood es (List.mem_of_getElem? he)
    have hes : es.length ≤ 100 := by omega
    have hil : i < ess.length := (List.getElem?_eq_some_iff.mp he).1
    have hRow : Rf own v (.list (List.map eP es)) := hd2.mono fun p hp => hlo p (.tail _ hp)
    have hOptX := hOptR.mono fun p (hp : p ∈ tlR) => hlo p (.tail _ hp)
    have hl1 := hRk.length
    have hl2 := hRf.length
    have hl3 := hRa.length
    rw [List.length_map, List.length_take] at hl1 hl2 hl3
    clear hv hd1 hd2
    simp only [List.cons_append] at N₁
    (with_reducible show wpAny _ _ _ _ _ _); (try k_fold)
    (repeat' ((((fail_if_success (with_reducible show wpAny _ _ (isTrue (Expr.BoolOp _ _ _) _ _) _ _ _)); (((fail_if_success (with_reducible show wpAny _ _ (call (Value.ref _) _) _ _ _)); (fail_if_success (with_reducible show wpAny _ _ (exec (Stmt.While _ _ _ _) _) _ _ _)))))); (first | (k_unfold; (try dsimp only)) | (k_end; wrow_close) | walk1 | (dsimp only; walk1) | (leave1; walk_say "STEP leave1"; try dsimp only) | fail "no step")))
    with_unfolding_all refine' Con.use (con_weighted how es hes) ?k1 ?k2 ?k3 ?k4 ?k5 ?kK ?kP ?kd ?ku ?_
    (((((case k1 => k_asm); (case k2 => k_asm); (case k3 => k_asm); (case k4 => k_asm); (case k5 => k_asm); (case kK => first | exact rfl | assumption))); (case kd => decide); (case ku => decide)))
    case kP => exact ⟨_, _, rfl, hRow.at (by assumption) (by (first | (walk_at "MY subB") | (walk_say "OLDSUB"; ((intro p hp; (try simp only [List.mem_cons, List.mem_append, List.cons_append, List.nil_append, List.append_nil, List.not_mem_nil, or_false, false_or, or_assoc] at hp ⊢); first | (simp only [hp, true_or, or_true]; done) | (revert hp; (repeat (first | (with_reducible show (_ ∨ _) → _; refine or_imp.mpr ⟨fun hp => (by simp only [hp, true_or, or_true]), ?_⟩) | fail "no more")); (intro hp; simp only [hp, true_or, or_true]; done)))))))⟩
    intro r tw h9 tk9 F9 N9 of9 P9
    obtain ⟨aw, ws, nw, rfl, hWm, hWR⟩ := rl_list P9
    have sW : ∀ p ∈ tw, p.1 ≠ K ∧ p.1 ≠ F ∧ p.1 ≠ A := fun p hp => ⟨of9 p hp _ (by walk_at "MY nm"), of9 p hp _ (by walk_at "MY nm"), of9 p hp _ (by walk_at "MY nm")⟩
    have oW : ∀ p ∈ tw, ∀ q ∈ own, p.1 ≠ q.1 := fun p hp q hq => of9 p hp _ (List.mem_map.mpr ⟨q, by simp [hq], rfl⟩)
    have PW := P9.rf
    have hwl := weighted_len how es hG1.2
    have hWl := hWR.length
    rw [List.length_map] at hWl
    clear of9 F₁ N₁
    (repeat' ((((fail_if_success (with_reducible show wpAny _ _ (call (Value.builtin "len") _) _ _ _)); (fail_if_success (with_reducible show wpAny _ _ (call (Value.type "list") _) _ _ _)); (fail_if_success (with_reducible show wpAny _ _ (compareOp _ (Value.ref _) _) _ _ _)); (fail_if_success (with_reducible show wpAny _ _ (compareOp _ _ (Value.ref _)) _ _ _)); (fail_if_success (with_reducible show wpAny _ _ (call (Value.type _) (Value.ref _ :: _)) _ _ _)); (fail_if_success (with_reducible show wpAny _ _ (call (Value.builtin _) (Value.ref _ :: _)) _ _ _)); (((fail_if_success (with_reducible show wpAny _ _ (call (Value.ref _) _) _ _ _)); (fail_if_success (with_reducible show wpAny _ _ (exec (Stmt.While _ _ _ _) _) _ _ _)))))); (first | (k_unfold; (try dsimp only)) | (k_end; wrow_close) | walk1 | (dsimp only; walk1) | (leave1; walk_say "STEP leave1"; try dsimp only) | fail "no step")))
    (rename Fr _ _ _ _ => lF); (rename News _ _ _ _ => lN)
    refine comp_list (fun j => ((weightedS how es).take j).map rP) rfl lF lN (.inr ⟨_, List.mem_append.mpr (.inr hWm), rfl, _, rfl⟩) (by rw [hWl, hwl]; first | exact fit100 (by assumption) | exact fit1000 (by assumption) | exact fit500 (by assumption) | (rw [sizeLine_eq]; omega)) rfl ?_ ?_
    · intro j v ys tl' I' oI C oC D₂ m₂ h tk E' hv hR hC hx F₁ N₁ off ne
      ((try with_reducible show wpAny _ _ _ _ _ _); (try k_fold))
      obtain ⟨d, hd1, hd2⟩ := rfAll_get hWR j v hv
      obtain ⟨e, he1, rfl⟩ : ∃ e, (weightedS how es)[j]? = some e ∧ rP e = d := by simpa using hd1
      obtain ⟨ax, t1, t2, t3, t4, rfl, hT⟩ := rd_row (hd2.at N₁ (by (first | (walk_at "MY subB") | (walk_say "OLDSUB"; ((intro p hp; (try simp only [List.mem_cons, List.mem_append, List.cons_append, List.nil_append, List.append_nil, List.not_mem_nil, or_false, false_or, or_assoc] at hp ⊢); first | (simp only [hp, true_or, or_true]; done) | (revert hp; (repeat (first | (with_reducible show (_ ∨ _) → _; refine or_imp.mpr ⟨fun hp => (by simp only [hp, true_or, or_true]), ?_⟩) | fail "no more")); (intro hp; simp only [hp, true_or, or_true]; done))))))))
      have hs1 := map_take_succ rP (weightedS how es) j e he1
      clear lF lN hv hd1
      (try k_fold)
      (repeat' ((((fail_if_success (with_reducible show wpAny _ _ (call (Value.builtin "len") _) _ _ _)); (fail_if_success (with_reducible show wpAny _ _ (call (Value.type "list") _) _ _ _)); (fail_if_success (with_reducible show wpAny _ _ (compareOp _ (Value.ref _) _) _ _ _)); (fail_if_success (with_reducible show wpAny _ _ (compareOp _ _ (Value.ref _)) _ _ _)); (fail_if_success (with_reducible show wpAny _ _ (call (Value.type _) (Value.ref _ :: _)) _ _ _)); (fail_if_success (with_reducible show wpAny _ _ (call (Value.builtin _) (Value.ref _ :: _)) _ _ _)); (((fail_if_success (with_reducible show wpAny _ _ (call (Value.ref _) _) _ _ _)); (fail_if_success (with_reducible show wpAny _ _ (exec (Stmt.While _ _ _ _) _) _ _ _)))))); (first | (k_unfold; (try dsimp only)) | (k_end; wrow_close) | walk1 | (dsimp only; walk1) | (leave1; walk_say "STEP leave1"; try dsimp only) | fail "no step")))
      with_unfolding_all refine call_tuple_tup hT ?_
      (repeat' ((((fail_if_success (with_reducible show wpAny _ _ (call (Value.builtin "len") _) _ _ _)); (fail_if_success (with_reducible show wpAny _ _ (call (Value.type "list") _) _ _ _)); (fail_if_success (with_reducible show wpAny _ _ (compareOp _ (Value.ref _) _) _ _ _)); (fail_if_success (with_reducible show wpAny _ _ (compareOp _ _ (Value.ref _)) _ _ _)); (fail_if_success (with_reducible show wpAny _ _ (call (Value.type _) (Value.ref _ :: _)) _ _ _)); (fail_if_success (with_reducible show wpAny _ _ (call (Value.builtin _) (Value.ref _ :: _)) _ _ _)); (((fail_if_success (with_reducible show wpAny _ _ (call (Value.ref _) _) _ _ _)); (fail_if_success (with_reducible show wpAny _ _ (exec (Stmt.While _ _ _ _) _) _ _ _)))))); (first | (k_unfold; (try dsimp only)) | (k_end; wrow_close) | walk1 | (dsimp only; walk1) | (leave1; walk_say "STEP leave1"; try dsimp only) | fail "no step")))
      with_unfolding_all exact compEnd_in (tl2 := tw) F₁ N₁ (by (first | (walk_at "MY subB") | (walk_say "OLDSUB"; ((intro p hp; (try simp only [List.mem_cons, List.mem_append, List.cons_append, List.nil_append, List.append_nil, List.not_mem_nil, or_false, false_or, or_assoc] at hp ⊢); first | (simp only [hp, true_or, or_true]; done) | (revert hp; (repeat (first | (with_reducible show (_ ∨ _) → _; refine or_imp.mpr ⟨fun hp => (by simp only [hp, true_or, or_true]), ?_⟩) | fail "no more")); (intro hp; simp only [hp, true_or, or_true]; done))))))) off (fun p hp => off.mem p (List.mem_append.mpr (.inr (List.mem_append.mpr (.inr hp))))) (fun l hl => .inr ⟨_, hl _ (List.mem_append.mpr (.inr hWm)), rfl, _, rfl⟩) hR hd2 hs1
    · intro g9 tl' ys hR
      intro D₂ h9 tk9 F9 N9 o9
      rw [show (weightedS how es).take _ = weightedS how es by rw [List.take_of_length_le]; rw [hWl]; exact Nat.le_refl _] at hR
      clear lF lN
      (repeat' ((((fail_if_success (with_reducible show wpAny _ _ (call (Value.builtin "len") _) _ _ _)); (fail_if_success (with_reducible show wpAny _ _ (call (Value.type "list") _) _ _ _)); (fail_if_success (with_reducible show wpAny _ _ (compareOp _ (Value.ref _) _) _ _ _)); (fail_if_success (with_reducible show wpAny _ _ (compareOp _ _ (Value.ref _)) _ _ _)); (fail_if_success (with_reducible show wpAny _ _ (call (Value.type _) (Value.ref _ :: _)) _ _ _)); (fail_if_success (with_reducible show wpAny _ _ (call (Value.builtin _) (Value.ref _ :: _)) _ _ _)); (((fail_if_success (with_reducible show wpAny _ _ (call (Value.ref _) _) _ _ _)); (fail_if_success (with_reducible show wpAny _ _ (exec (Stmt.While _ _ _ _) _) _ _ _)))))); (first | (k_unfold; (try dsimp only)) | (k_end; wrow_close) | walk1 | (dsimp only; walk1) | (leave1; walk_say "STEP leave1"; try dsimp only) | fail "no step")))
      with_unfolding_all refine' Con.use (con_lweighed how es hes) ?k1 ?k2 ?k3 ?k4 ?k5 ?kK ?kP ?kd ?ku ?_
      (((((case k1 => k_asm); (case k2 => k_asm); (case k3 => k_asm); (case k4 => k_asm); (case k5 => k_asm); (case kK => first | exact rfl | assumption))); (case kd => decide); (case ku => decide)))
      case kP => exact ⟨_, _, rfl, hRow.at (by assumption) (by (first | (walk_at "MY subB") | (walk_say "OLDSUB"; ((intro p hp; (try simp only [List.mem_cons, List.mem_append, List.cons_append, List.nil_append, List.append_nil, List.not_mem_nil, or_false, false_or, or_assoc] at hp ⊢); first | (simp only [hp, true_or, or_true]; done) | (revert hp; (repeat (first | (with_reducible show (_ ∨ _) → _; refine or_imp.mpr ⟨fun hp => (by simp only [hp, true_or, or_true]), ?_⟩) | fail "no more")); (intro hp; simp only [hp, true_or, or_true]; done)))))))⟩
      intro r2 tx h9 tk9 F9 N9 of9 P9
      rw [lw_eq how es hG1.2] at P9
      have hcmp : Rf ((D₂, LCg.lst ys) :: (tl' ++ tw)) (.ref D₂) (.list ((weightedS how es).map rP)) := Rf.list (.head _) (hR.mono fun p hp => .tail _ (List.mem_append.mpr (.inl hp)))
      (repeat' ((((fail_if_success (with_reducible show wpAny _ _ (call (Value.builtin "len") _) _ _ _)); (fail_if_success (with_reducible show wpAny _ _ (call (Value.type "list") _) _ _ _)); (fail_if_success (with_reducible show wpAny _ _ (compareOp _ (Value.ref _) _) _ _ _)); (fail_if_success (with_reducible show wpAny _ _ (compareOp _ _ (Value.ref _)) _ _ _)); (fail_if_success (with_reducible show wpAny _ _ (call (Value.type _) (Value.ref _ :: _)) _ _ _)); (fail_if_success (with_reducible show wpAny _ _ (call (Value.builtin _) (Value.ref _ :: _)) _ _ _)); (((fail_if_success (with_reducible show wpAny _ _ (call (Value.ref _) _) _ _ _)); (fail_if_success (with_reducible show wpAny _ _ (exec (Stmt.While _ _ _ _) _) _ _ _)))))); (first | (k_unfold; (try dsimp only)) | (k_end; wrow_close) | walk1 | (dsimp only; walk1) | (leave1; walk_say "STEP leave1"; try dsimp only) | fail "no step")))
      with_unfolding_all refine ne_same (hcmp.at N9 (by (first | (walk_at "MY subB") | (walk_say "OLDSUB"; ((intro p hp; (try simp only [List.mem_cons, List.mem_append, List.cons_append, List.nil_append, List.append_nil, List.not_mem_nil, or_false, false_or, or_assoc] at hp ⊢); first | (simp only [hp, true_or, or_true]; done) | (revert hp; (repeat (first | (with_reducible show (_ ∨ _) → _; refine or_imp.mpr ⟨fun hp => (by simp only [hp, true_or, or_true]), ?_⟩) | fail "no more")); (intro hp; simp only [hp, true_or, or_true]; done)))))))) (P9.at N9 (by (first | (walk_at "MY subB") | (walk_say "OLDSUB"; ((intro p hp; (try simp only [List.mem_cons, List.mem_append, List.cons_append, List.nil_append, List.append_nil, List.not_mem_nil, or_false, false_or, or_assoc] at hp ⊢); first | (simp only [hp, true_or, or_true]; done) | (revert hp; (repeat (first | (with_reducible show (_ ∨ _) → _; refine or_imp.mpr ⟨fun hp => (by simp only [hp, true_or, or_true]), ?_⟩) | fail "no more")); (intro hp; simp only [hp, true_or, or_true]; done)))))))) (shaped_rows _) (show (7 : Nat) + 64 < cLine by decide) ?_
      have N8 := News.sub (b := (K, W.listOf (List.toArray ks) nk) :: (F, W.listOf (List.toArray fs) nf) :: (A, W.listOf (List.toArray as) na) :: (tl ++ own ++ tw)) N9 (by (first | (walk_at "MY subB") | (walk_say "OLDSUB"; ((intro p hp; (try simp only [List.mem_cons, List.mem_append, List.cons_append, List.nil_append, List.append_nil, List.not_mem_nil, or_false, false_or, or_assoc] at hp ⊢); first | (simp only [hp, true_or, or_true]; done) | (revert hp; (repeat (first | (with_reducible show (_ ∨ _) → _; refine or_imp.mpr ⟨fun hp => (by simp only [hp, true_or, or_true]), ?_⟩) | fail "no more")); (intro hp; simp only [hp, true_or, or_true]; done)))))))
      clear hcmp P9 of9 N9 o9 hR
      rename_i law4ay0 law4ay1 law4ay2 law4ay3 law4ay4 law4ay5 law4ay6 law4ay7 law4ay8 law4ay9 law4ay10 law4ay11 law4ay12 law4ay13 law4ay14 law4ay15
        law4ay16 law4ay17 law4ay18
      revert law1y0 law1y1 law1y2 law1y3 law1y4 law1y5 law1y6 law1y7 law1y8 law1y9 law1y10 law1y11 law1y12 law1y13 KX law1y14 law1y15 law1y16 law1y17
        law1y18 law1y19 law1y20 law1y21 law1y22 law1y23 law1y24 law1y25 law1y26 law1y27 hSc law1y28 hlen63 law1y29 law1y30 law1y31 law1y32 law1y33
        law1y34 law1y35 law1y36 law1y37 law1y38 law1y39 sc hsc hS14 law1y40 law1y41 hS14l hscl law1y42 law4ay0 law1y43 law1y44 law1y45 law1y46 cs hcs
        hcr hcl hI hyl law1y47 law1y48 law1y49 law1y50 law1y51 law1y52 law1y53 law1y54 law1y55 law1y56 law1y57 wh law3ty0 law3ty1 law1y58 law1y59 how th
        law1y60 law1y61 law1y62 law1y63 law1y64 law1y65 law1y66 law1y67 law1y68 law1y69 law1y70 law1y71 law1y72 law1y73 law1y74 law1y75 law1y76 law1y77
        law1y78 law1y79 law1y80 lifted law4ay1 law4ay2 tk5 law1y81 law1y82 law1y83 law1y84 law1y85 law1y86 law1y87 law1y88 law1y89 law1y90 law1y91
        law1y92 law1y93 law1y94 law1y95 law1y96 str hstr bw law1y97 tlO c1 law1y98 law1y99 law1y100 tlE law4ay3 law4ay4 law1y101 law1y102 law1y103
        law1y104 law1y105 law1y106 c2 law1y107 law1y108 law4ay5 tlE2 ys2 hR D₃ law1y109 law1y110 law1y112 law1y113 law1y114 tlW law4ay6 law4ay7 aW
        law1y115 law1y116 law1y118 h8 n8 tlR ess vsR hRows hGood hEl hOptR hCs law2gy1 law2gy4 law2gy7 law2gy9 law2gy10 law2gy12 law2gy13 law2gy14
        law2gy16 law2gy17 law2gy19 law2gy20 A F K R law1y117 law2gy15 law2gy18 law2gy2 law2gy5 law2gy8 law2gy11 law2gy21 sep hKF hKA hFA i v u h tk own
        hlo qk ek ks fs as nk nf na tl ho hRk hRf hRa hsep es he hG1 hes hil hRow hOptX hl1 hl2 hl3 law4ay8 law4ay9 law4ay10 tw law4ay11 law4ay12 aw ws
        nw P9 hWm hWR sW oW PW hwl hWl law4ay13 law4ay14 law4ay15 g9 tl' ys D₂ law4ay16 law4ay17 law4ay18 N9 r2 tx h9 tk9 F9 N8
      exact hNext0.down
end

section
theorem top_off_L5 : True := by
  w_top off
  exact trivial
set_option maxHeartbeats 8000000 in
theorem SL5 : SL4.1 := by
  w_top off
  intro law1y0 law1y1 law1y2 law1y3 law1y4 law1y5 law1y6 law1y7 law1y8 law1y9 law1y10 law1y11 law1y12 law1y13 KX law1y14 law1y15 law1y16 law1y17
    law1y18 law1y19 law1y20 law1y21 law1y22 law1y23 law1y24 law1y25 law1y26 law1y27 hSc law1y28 hlen63 law1y29 law1y30 law1y31 law1y32 law1y33 law1y34
    law1y35 law1y36 law1y37 law1y38 law1y39 sc hsc hS14 law1y40 law1y41 hS14l hscl law1y42 law4ay0 law1y43 law1y44 law1y45 law1y46 cs hcs hcr hcl hI
    hyl law1y47 law1y48 law1y49 law1y50 law1y51 law1y52 law1y53 law1y54 law1y55 law1y56 law1y57 wh law3ty0 law3ty1 law1y58 law1y59 how th law1y60
    law1y61 law1y62 law1y63 law1y64 law1y65 law1y66 law1y67 law1y68 law1y69 law1y70 law1y71 law1y72 law1y73 law1y74 law1y75 law1y76 law1y77 law1y78
    law1y79 law1y80 lifted law4ay1 law4ay2 tk5 law1y81 law1y82 law1y83 law1y84 law1y85 law1y86 law1y87 law1y88 law1y89 law1y90 law1y91 law1y92 law1y93
    law1y94 law1y95 law1y96 str hstr bw law1y97 tlO c1 law1y98 law1y99 law1y100 tlE law4ay3 law4ay4 law1y101 law1y102 law1y103 law1y104 law1y105
    law1y106 c2 law1y107 law1y108 law4ay5 tlE2 ys2 hR D₃ law1y109 law1y110 law1y112 law1y113 law1y114 tlW law4ay6 law4ay7 aW law1y115 law1y116
    law1y118 h8 n8 tlR ess vsR hRows hGood hEl hOptR hCs law2gy1 law2gy4 law2gy7 law2gy9 law2gy10 law2gy12 law2gy13 law2gy14 law2gy16 law2gy17
    law2gy19 law2gy20 A F K R law1y117 law2gy15 law2gy18 law2gy2 law2gy5 law2gy8 law2gy11 law2gy21 sep hKF hKA hFA i v u h tk own hlo qk ek ks fs as
    nk nf na tl ho hRk hRf hRa hsep es he hG1 hes hil hRow hOptX hl1 hl2 hl3 law4ay8 law4ay9 law4ay10 tw law4ay11 law4ay12 aw ws nw P9 hWm hWR sW oW
    PW hwl hWl law4ay13 law4ay14 law4ay15 g9 tl' ys D₂ law4ay16 law4ay17 law4ay18 N9 r2 tx h9 tk9 F9 N8
  (have hhX := KX); revert hhX; k_fill; intro hhX; clear hhX
  (repeat' ((((fail_if_success (with_reducible show wpAny _ _ (call (Value.builtin "len") _) _ _ _)); (fail_if_success (with_reducible show wpAny _ _ (call (Value.type "list") _) _ _ _)); (fail_if_success (with_reducible show wpAny _ _ (compareOp _ (Value.ref _) _) _ _ _)); (fail_if_success (with_reducible show wpAny _ _ (compareOp _ _ (Value.ref _)) _ _ _)); (fail_if_success (with_reducible show wpAny _ _ (call (Value.type _) (Value.ref _ :: _)) _ _ _)); (fail_if_success (with_reducible show wpAny _ _ (call (Value.builtin _) (Value.ref _ :: _)) _ _ _)); (((fail_if_success (with_reducible show wpAny _ _ (call (Value.ref _) _) _ _ _)); (fail_if_success (with_reducible show wpAny _ _ (exec (Stmt.While _ _ _ _) _) _ _ _)))))); (first | (k_unfold; (try dsimp only)) | (k_end; wrow_close) | walk1 | (dsimp only; walk1) | (leave1; walk_say "STEP leave1"; try dsimp only) | fail "no step")))
  with_unfolding_all refine' Con.use (con_lweighed how es hes) ?k1 ?k2 ?k3 ?k4 ?k5 ?kK ?kP ?kd ?ku ?_
  (((((case k1 => k_asm); (case k2 => k_asm); (case k3 => k_asm); (case k4 => k_asm); (case k5 => k_asm); (case kK => first | exact rfl | assumption))); (case kd => decide); (case ku => decide)))
  case kP => exact ⟨_, _, rfl, hRow.at (by assumption) (by (first | (walk_at "MY subB") | (walk_say "OLDSUB"; ((intro p hp; (try simp only [List.mem_cons, List.mem_append, List.cons_append, List.nil_append, List.append_nil, List.not_mem_nil, or_false, false_or, or_assoc] at hp ⊢); first | (simp only [hp, true_or, or_true]; done) | (revert hp; (repeat (first | (with_reducible show (_ ∨ _) → _; refine or_imp.mpr ⟨fun hp => (by simp only [hp, true_or, or_true]), ?_⟩) | fail "no more")); (intro hp; simp only [hp, true_or, or_true]; done)))))))⟩
  intro r2 tx h9 tk9 F9 N9 of9 P9
  rw [lw_eq how es hG1.2] at P9
  clear N8 of9
  (repeat' ((((fail_if_success (with_reducible show wpAny _ _ (call (Value.builtin "len") _) _ _ _)); (fail_if_success (with_reducible show wpAny _ _ (call (Value.type "list") _) _ _ _)); (fail_if_success (with_reducible show wpAny _ _ (compareOp _ (Value.ref _) _) _ _ _)); (fail_if_success (with_reducible show wpAny _ _ (compareOp _ _ (Value.ref _)) _ _ _)); (fail_if_success (with_reducible show wpAny _ _ (call (Value.type _) (Value.ref _ :: _)) _ _ _)); (fail_if_success (with_reducible show wpAny _ _ (call (Value.builtin _) (Value.ref _ :: _)) _ _ _)); (((fail_if_success (with_reducible show wpAny _ _ (call (Value.ref _) _) _ _ _)); (fail_if_success (with_reducible show wpAny _ _ (exec (Stmt.While _ _ _ _) _) _ _ _)))))); (first | (k_unfold; (try dsimp only)) | (k_end; wrow_close) | walk1 | (dsimp only; walk1) | (leave1; walk_say "STEP leave1"; try dsimp only) | fail "no step")))
  with_unfolding_all refine' Con.use (con_llev how str bw (weightedS how es) (by omega) hstr (fun e he => (weighted_good how es hG1.2 e he).pos)) ?k1 ?k2 ?k3 ?k4 ?k5 ?kK ?kP ?kd ?ku ?_
  (((((case k1 => k_asm); (case k2 => k_asm); (case k3 => k_asm); (case k4 => k_asm); (case k5 => k_asm); (case kK => first | exact rfl | assumption))); (case kd => decide); (case ku => decide)))
  case kP => exact ⟨_, _, _, rfl, P9.at (by assumption) (by (first | (walk_at "MY subB") | (walk_say "OLDSUB"; ((intro p hp; (try simp only [List.mem_cons, List.mem_append, List.cons_append, List.nil_append, List.append_nil, List.not_mem_nil, or_false, false_or, or_assoc] at hp ⊢); first | (simp only [hp, true_or, or_true]; done) | (revert hp; (repeat (first | (with_reducible show (_ ∨ _) → _; refine or_imp.mpr ⟨fun hp => (by simp only [hp, true_or, or_true]), ?_⟩) | fail "no more")); (intro hp; simp only [hp, true_or, or_true]; done)))))))⟩
  intro rL tL h9 tk9 F9 N9 of9 PL
  have N8 := News.sub (b := (K, W.listOf (List.toArray ks) nk) :: (F, W.listOf (List.toArray fs) nf) :: (A, W.listOf (List.toArray as) na) :: (tl ++ own ++ tw ++ tL)) N9 (by (first | (walk_at "MY subB") | (walk_say "OLDSUB"; ((intro p hp; (try simp only [List.mem_cons, List.mem_append, List.cons_append, List.nil_append, List.append_nil, List.not_mem_nil, or_false, false_or, or_assoc] at hp ⊢); first | (simp only [hp, true_or, or_true]; done) | (revert hp; (repeat (first | (with_reducible show (_ ∨ _) → _; refine or_imp.mpr ⟨fun hp => (by simp only [hp, true_or, or_true]), ?_⟩) | fail "no more")); (intro hp; simp only [hp, true_or, or_true]; done)))))))
  have sL : ∀ p ∈ tL, p.1 ≠ K ∧ p.1 ≠ F ∧ p.1 ≠ A := fun p hp => ⟨of9 p hp _ (by walk_at "MY nm"), of9 p hp _ (by walk_at "MY nm"), of9 p hp _ (by walk_at "MY nm")⟩
  have oL : ∀ p ∈ tL, ∀ q ∈ own, p.1 ≠ q.1 := fun p hp q hq => of9 p hp _ (List.mem_map.mpr ⟨q, by simp [hq], rfl⟩)
  clear N9 of9 P9
  (repeat' ((((fail_if_success (with_reducible show wpAny _ _ (call (Value.builtin "len") _) _ _ _)); (fail_if_success (with_reducible show wpAny _ _ (call (Value.type "list") _) _ _ _)); (fail_if_success (with_reducible show wpAny _ _ (compareOp _ (Value.ref _) _) _ _ _)); (fail_if_success (with_reducible show wpAny _ _ (compareOp _ _ (Value.ref _)) _ _ _)); (fail_if_success (with_reducible show wpAny _ _ (call (Value.type _) (Value.ref _ :: _)) _ _ _)); (fail_if_success (with_reducible show wpAny _ _ (call (Value.builtin _) (Value.ref _ :: _)) _ _ _)); (((fail_if_success (with_reducible show wpAny _ _ (call (Value.ref _) _) _ _ _)); (fail_if_success (with_reducible show wpAny _ _ (exec (Stmt.While _ _ _ _) _) _ _ _)))))); (first | (k_unfold; (try dsimp only)) | (k_end; wrow_close) | walk1 | (dsimp only; walk1) | (leave1; walk_say "STEP leave1"; try dsimp only) | fail "no step")))
  with_unfolding_all refine' Con.use (con_wkey how str bw (weightedS how es) (by omega)) ?k1 ?k2 ?k3 ?k4 ?k5 ?kK ?kP ?kd ?ku ?_
  (((((case k1 => k_asm); (case k2 => k_asm); (case k3 => k_asm); (case k4 => k_asm); (case k5 => k_asm); (case kK => first | exact rfl | assumption))); (case kd => decide); (case ku => decide)))
  case kP => exact ⟨_, _, rfl, (PW.at (by assumption) (by (first | (walk_at "MY subB") | (walk_say "OLDSUB"; ((intro p hp; (try simp only [List.mem_cons, List.mem_append, List.cons_append, List.nil_append, List.append_nil, List.not_mem_nil, or_false, false_or, or_assoc] at hp ⊢); first | (simp only [hp, true_or, or_true]; done) | (revert hp; (repeat (first | (with_reducible show (_ ∨ _) → _; refine or_imp.mpr ⟨fun hp => (by simp only [hp, true_or, or_true]), ?_⟩) | fail "no more")); (intro hp; simp only [hp, true_or, or_true]; done)))))))), hOptX.at (by assumption) (by assumption) (by (first | (walk_at "MY subB") | (walk_say "OLDSUB"; ((intro p hp; (try simp only [List.mem_cons, List.mem_append, List.cons_append, List.nil_append, List.append_nil, List.not_mem_nil, or_false, false_or, or_assoc] at hp ⊢); first | (simp only [hp, true_or, or_true]; done) | (revert hp; (repeat (first | (with_reducible show (_ ∨ _) → _; refine or_imp.mpr ⟨fun hp => (by simp only [hp, true_or, or_true]), ?_⟩) | fail "no more")); (intro hp; simp only [hp, true_or, or_true]; done)))))))⟩
  intro rK tK h9 tk9 F9 N9 of9 PK
  have N7 := News.sub (b := (K, W.listOf (List.toArray ks) nk) :: (F, W.listOf (List.toArray fs) nf) :: (A, W.listOf (List.toArray as) na) :: (tl ++ own ++ tw ++ tL ++ tK)) N9 (by (first | (walk_at "MY subB") | (walk_say "OLDSUB"; ((intro p hp; (try simp only [List.mem_cons, List.mem_append, List.cons_append, List.nil_append, List.append_nil, List.not_mem_nil, or_false, false_or, or_assoc] at hp ⊢); first | (simp only [hp, true_or, or_true]; done) | (revert hp; (repeat (first | (with_reducible show (_ ∨ _) → _; refine or_imp.mpr ⟨fun hp => (by simp only [hp, true_or, or_true]), ?_⟩) | fail "no more")); (intro hp; simp only [hp, true_or, or_true]; done)))))))
  have sK : ∀ p ∈ tK, p.1 ≠ K ∧ p.1 ≠ F ∧ p.1 ≠ A := fun p hp => ⟨of9 p hp _ (by walk_at "MY nm"), of9 p hp _ (by walk_at "MY nm"), of9 p hp _ (by walk_at "MY nm")⟩
  have oK : ∀ p ∈ tK, ∀ q ∈ own, p.1 ≠ q.1 := fun p hp q hq => of9 p hp _ (List.mem_map.mpr ⟨q, by simp [hq], rfl⟩)
  obtain ⟨ak, kvs, nk2, rfl, hKm, hKR⟩ := rl_list PK
  clear N9 of9
  (try clear N8)
  (repeat' ((((fail_if_success (with_reducible show wpAny _ _ (call (Value.builtin "len") _) _ _ _)); (fail_if_success (with_reducible show wpAny _ _ (call (Value.type "list") _) _ _ _)); (fail_if_success (with_reducible show wpAny _ _ (compareOp _ (Value.ref _) _) _ _ _)); (fail_if_success (with_reducible show wpAny _ _ (compareOp _ _ (Value.ref _)) _ _ _)); (fail_if_success (with_reducible show wpAny _ _ (call (Value.type _) (Value.ref _ :: _)) _ _ _)); (fail_if_success (with_reducible show wpAny _ _ (call (Value.builtin _) (Value.ref _ :: _)) _ _ _)); (((fail_if_success (with_reducible show wpAny _ _ (call (Value.ref _) _) _ _ _)); (fail_if_success (with_reducible show wpAny _ _ (exec (Stmt.While _ _ _ _) _) _ _ _)))))); (first | (k_unfold; (try dsimp only)) | (k_end; wrow_close) | walk1 | (dsimp only; walk1) | (leave1; walk_say "STEP leave1"; try dsimp only) | fail "no step")))
  (rename Fr _ _ _ _ => lF); (rename News _ _ _ _ => lN)
  obtain ⟨l0, ls, hLe⟩ : ∃ l0 ls, levelsS how str bw (weightedS how es) = l0 :: ls := ⟨_, _, rfl⟩
  have hLG := lev_good how str bw (weightedS how es) (weighted_good how es hG1.2)
  have hLn := lev_num how str bw (weightedS how es) hstr
  rw [hLe] at hLG hLn PL PK
  have hLlen : ∀ l ∈ l0 :: ls, l.length ≤ 100 := fun l hl => by have := (hLG l hl).2; omega
  have hKlen : (keyS (l0 :: ls)).length ≤ 1000 := by
    have h1 := keyS_len (l0 :: ls) hLlen
    have h2 : (l0 :: ls).length ≤ 4 := by omega
    omega
  have hKvl := hKR.length
  rw [List.length_map, hLe] at hKvl
  refine list_copyK lF lN (isListN lN (List.mem_cons_of_mem _ (List.mem_cons_of_mem _ (List.mem_cons_of_mem _ (List.mem_append.mpr (.inr hKm)))))) (fun D₄ c4 h9 F9 N9 l9 => ?_) (by rw [List.size_toArray, hKvl]; first | exact fit100 (by assumption) | exact fit1000 (by assumption) | exact fit500 (by assumption) | (rw [sizeLine_eq]; omega))
  clear lF lN
  have P4 : Rf ((D₄, W.listOf (List.toArray kvs) c4) :: tK) (.ref D₄) (lP (keyS (l0 :: ls))) := by
    rw [hLe] at hKR
    exact Rf.list (.head _) (hKR.mono fun p hp => .tail _ hp)
  (try dsimp only)
  (repeat' ((((fail_if_success (with_reducible show wpAny _ _ (call (Value.builtin "len") _) _ _ _)); (fail_if_success (with_reducible show wpAny _ _ (call (Value.type "list") _) _ _ _)); (fail_if_success (with_reducible show wpAny _ _ (compareOp _ (Value.ref _) _) _ _ _)); (fail_if_success (with_reducible show wpAny _ _ (compareOp _ _ (Value.ref _)) _ _ _)); (fail_if_success (with_reducible show wpAny _ _ (call (Value.type _) (Value.ref _ :: _)) _ _ _)); (fail_if_success (with_reducible show wpAny _ _ (call (Value.builtin _) (Value.ref _ :: _)) _ _ _)); (((fail_if_success (with_reducible show wpAny _ _ (call (Value.ref _) _) _ _ _)); (fail_if_success (with_reducible show wpAny _ _ (exec (Stmt.While _ _ _ _) _) _ _ _)))))); (first | (k_unfold; (try dsimp only)) | (k_end; wrow_close) | walk1 | (dsimp only; walk1) | (leave1; walk_say "STEP leave1"; try dsimp only) | fail "no step")))
  with_unfolding_all refine' Con.use (con_lkey l0 ls (hLlen l0 (.head _)) (by rw [List.length_cons] at hLn; omega) (fun x hx => hLlen x (.tail _ hx))) ?k1 ?k2 ?k3 ?k4 ?k5 ?kK ?kP ?kd ?ku ?_
  (((((case k1 => k_asm); (case k2 => k_asm); (case k3 => k_asm); (case k4 => k_asm); (case k5 => k_asm); (case kK => first | exact rfl | assumption))); (case kd => decide); (case ku => decide)))
  case kP => exact ⟨_, rfl, PL.rf.at (by assumption) (by (first | (walk_at "MY subB") | (walk_say "OLDSUB"; ((intro p hp; (try simp only [List.mem_cons, List.mem_append, List.cons_append, List.nil_append, List.append_nil, List.not_mem_nil, or_false, false_or, or_assoc] at hp ⊢); first | (simp only [hp, true_or, or_true]; done) | (revert hp; (repeat (first | (with_reducible show (_ ∨ _) → _; refine or_imp.mpr ⟨fun hp => (by simp only [hp, true_or, or_true]), ?_⟩) | fail "no more")); (intro hp; simp only [hp, true_or, or_true]; done)))))))⟩
  intro r5 t5 h5 tk5 F5 N5 of5 P5
  (repeat' ((((fail_if_success (with_reducible show wpAny _ _ (call (Value.builtin "len") _) _ _ _)); (fail_if_success (with_reducible show wpAny _ _ (call (Value.type "list") _) _ _ _)); (fail_if_success (with_reducible show wpAny _ _ (compareOp _ (Value.ref _) _) _ _ _)); (fail_if_success (with_reducible show wpAny _ _ (compareOp _ _ (Value.ref _)) _ _ _)); (fail_if_success (with_reducible show wpAny _ _ (call (Value.type _) (Value.ref _ :: _)) _ _ _)); (fail_if_success (with_reducible show wpAny _ _ (call (Value.builtin _) (Value.ref _ :: _)) _ _ _)); (((fail_if_success (with_reducible show wpAny _ _ (call (Value.ref _) _) _ _ _)); (fail_if_success (with_reducible show wpAny _ _ (exec (Stmt.While _ _ _ _) _) _ _ _)))))); (first | (k_unfold; (try dsimp only)) | (k_end; wrow_close) | walk1 | (dsimp only; walk1) | (leave1; walk_say "STEP leave1"; try dsimp only) | fail "no step")))
  with_unfolding_all refine ne_same (P4.at (by assumption) (by (first | (walk_at "MY subB") | (walk_say "OLDSUB"; ((intro p hp; (try simp only [List.mem_cons, List.mem_append, List.cons_append, List.nil_append, List.append_nil, List.not_mem_nil, or_false, false_or, or_assoc] at hp ⊢); first | (simp only [hp, true_or, or_true]; done) | (revert hp; (repeat (first | (with_reducible show (_ ∨ _) → _; refine or_imp.mpr ⟨fun hp => (by simp only [hp, true_or, or_true]), ?_⟩) | fail "no more")); (intro hp; simp only [hp, true_or, or_true]; done)))))))) (P5.at (by assumption) (by (first | (walk_at "MY subB") | (walk_say "OLDSUB"; ((intro p hp; (try simp only [List.mem_cons, List.mem_append, List.cons_append, List.nil_append, List.append_nil, List.not_mem_nil, or_false, false_or, or_assoc] at hp ⊢); first | (simp only [hp, true_or, or_true]; done) | (revert hp; (repeat (first | (with_reducible show (_ ∨ _) → _; refine or_imp.mpr ⟨fun hp => (by simp only [hp, true_or, or_true]), ?_⟩) | fail "no more")); (intro hp; simp only [hp, true_or, or_true]; done)))))))) (shaped_lP _) (show (7 : Nat) + 64 < cLine by decide) ?_
  have N8 := News.sub (b := (K, W.listOf (List.toArray ks) nk) :: (F, W.listOf (List.toArray fs) nf) :: (A, W.listOf (List.toArray as) na) :: (tl ++ own ++ tw ++ tL ++ tK)) N5 (by (first | (walk_at "MY subB") | (walk_say "OLDSUB"; ((intro p hp; (try simp only [List.mem_cons, List.mem_append, List.cons_append, List.nil_append, List.append_nil, List.not_mem_nil, or_false, false_or, or_assoc] at hp ⊢); first | (simp only [hp, true_or, or_true]; done) | (revert hp; (repeat (first | (with_reducible show (_ ∨ _) → _; refine or_imp.mpr ⟨fun hp => (by simp only [hp, true_or, or_true]), ?_⟩) | fail "no more")); (intro hp; simp only [hp, true_or, or_true]; done)))))))
  clear P4 P5 N5 of5 N9 F9
  (repeat' ((((fail_if_success (with_reducible show wpAny _ _ (call (Value.builtin "len") _) _ _ _)); (fail_if_success (with_reducible show wpAny _ _ (call (Value.type "list") _) _ _ _)); (fail_if_success (with_reducible show wpAny _ _ (compareOp _ (Value.ref _) _) _ _ _)); (fail_if_success (with_reducible show wpAny _ _ (compareOp _ _ (Value.ref _)) _ _ _)); (fail_if_success (with_reducible show wpAny _ _ (call (Value.type _) (Value.ref _ :: _)) _ _ _)); (fail_if_success (with_reducible show wpAny _ _ (call (Value.builtin _) (Value.ref _ :: _)) _ _ _)); (((fail_if_success (with_reducible show wpAny _ _ (call (Value.ref _) _) _ _ _)); (fail_if_success (with_reducible show wpAny _ _ (exec (Stmt.While _ _ _ _) _) _ _ _)))))); (first | (k_unfold; (try dsimp only)) | (k_end; wrow_close) | walk1 | (dsimp only; walk1) | (leave1; walk_say "STEP leave1"; try dsimp only) | fail "no step")))
  with_unfolding_all refine' Con.use (con_split (keyS (l0 :: ls)) hKlen) ?k1 ?k2 ?k3 ?k4 ?k5 ?kK ?kP ?kd ?ku ?_
  (((((case k1 => k_asm); (case k2 => k_asm); (case k3 => k_asm); (case k4 => k_asm); (case k5 => k_asm); (case kK => first | exact rfl | assumption))); (case kd => decide); (case ku => decide)))
  case kP => exact ⟨_, rfl, PK.rf.at (by assumption) (by (first | (walk_at "MY subB") | (walk_say "OLDSUB"; ((intro p hp; (try simp only [List.mem_cons, List.mem_append, List.cons_append, List.nil_append, List.append_nil, List.not_mem_nil, or_false, false_or, or_assoc] at hp ⊢); first | (simp only [hp, true_or, or_true]; done) | (revert hp; (repeat (first | (with_reducible show (_ ∨ _) → _; refine or_imp.mpr ⟨fun hp => (by simp only [hp, true_or, or_true]), ?_⟩) | fail "no more")); (intro hp; simp only [hp, true_or, or_true]; done)))))))⟩
  intro r6 t6 h6 tk6 F6 N6 of6 P6
  rw [split_key (l0 :: ls) (by simp) (fun l hl => (hLG l hl).1)] at P6
  obtain ⟨a6, v6, n6, rfl, hm6, hR6⟩ := P6
  clear of6
  (repeat' ((((fail_if_success (with_reducible show wpAny _ _ (call (Value.builtin "len") _) _ _ _)); (fail_if_success (with_reducible show wpAny _ _ (call (Value.type "list") _) _ _ _)); (fail_if_success (with_reducible show wpAny _ _ (compareOp _ (Value.ref _) _) _ _ _)); (fail_if_success (with_reducible show wpAny _ _ (compareOp _ _ (Value.ref _)) _ _ _)); (fail_if_success (with_reducible show wpAny _ _ (call (Value.type _) (Value.ref _ :: _)) _ _ _)); (fail_if_success (with_reducible show wpAny _ _ (call (Value.builtin _) (Value.ref _ :: _)) _ _ _)); (((fail_if_success (with_reducible show wpAny _ _ (call (Value.ref _) _) _ _ _)); (fail_if_success (with_reducible show wpAny _ _ (exec (Stmt.While _ _ _ _) _) _ _ _)))))); (first | (k_unfold; (try dsimp only)) | (k_end; wrow_close) | walk1 | (dsimp only; walk1) | (leave1; walk_say "STEP leave1"; try dsimp only) | fail "no step")))
  (try dsimp only)
  have hv6 := hR6.length
  refine comp_list (fun j => ((l0 :: ls).take j).map lP) rfl F6 N6 (.inr ⟨_, List.mem_append.mpr (.inr hm6), rfl, _, rfl⟩) (by rw [hv6, hLn]; first | exact fit100 (by assumption) | exact fit1000 (by assumption) | exact fit500 (by assumption) | (rw [sizeLine_eq]; omega)) rfl ?_ ?_
  · intro j v ys tl' I' oI C oC D₂ m₂ h tk E' hv hR hC hx F₁ N₁ off ne
    ((try with_reducible show wpAny _ _ _ _ _ _); (try k_fold))
    obtain ⟨l, hl1, hl2⟩ := hR6.get j v hv
    obtain ⟨a7, v7, n7, rfl, hm7, hR7⟩ := rl_list hl2
    have hs1 := map_take_succ lP (l0 :: ls) j l hl1
    have hv7 := hR7.length
    rw [List.length_map] at hv7
    have hl7 := hLlen l (List.mem_of_getElem? hl1)
    clear hv
    (try k_fold)
    (repeat' ((((fail_if_success (with_reducible show wpAny _ _ (call (Value.builtin "len") _) _ _ _)); (fail_if_success (with_reducible show wpAny _ _ (call (Value.type "list") _) _ _ _)); (fail_if_success (with_reducible show wpAny _ _ (compareOp _ (Value.ref _) _) _ _ _)); (fail_if_success (with_reducible show wpAny _ _ (compareOp _ _ (Value.ref _)) _ _ _)); (fail_if_success (with_reducible show wpAny _ _ (call (Value.type _) (Value.ref _ :: _)) _ _ _)); (fail_if_success (with_reducible show wpAny _ _ (call (Value.builtin _) (Value.ref _ :: _)) _ _ _)); (((fail_if_success (with_reducible show wpAny _ _ (call (Value.ref _) _) _ _ _)); (fail_if_success (with_reducible show wpAny _ _ (exec (Stmt.While _ _ _ _) _) _ _ _)))))); (first | (k_unfold; (try dsimp only)) | (k_end; wrow_close) | walk1 | (dsimp only; walk1) | (leave1; walk_say "STEP leave1"; try dsimp only) | fail "no step")))
    refine list_copyK F₁ N₁ (isListN N₁ (List.mem_cons_of_mem _ (List.mem_cons_of_mem _ (List.mem_cons_of_mem _ (List.mem_append.mpr (.inr (List.mem_append.mpr (.inr hm7)))))))) (fun D₄ c4 h9 F9 N9 l9 => ?_) (by rw [List.size_toArray, hv7]; first | exact fit100 (by assumption) | exact fit1000 (by assumption) | exact fit500 (by assumption) | (rw [sizeLine_eq]; omega))
    (try dsimp only)
    (repeat' ((((fail_if_success (with_reducible show wpAny _ _ (call (Value.builtin "len") _) _ _ _)); (fail_if_success (with_reducible show wpAny _ _ (call (Value.type "list") _) _ _ _)); (fail_if_success (with_reducible show wpAny _ _ (compareOp _ (Value.ref _) _) _ _ _)); (fail_if_success (with_reducible show wpAny _ _ (compareOp _ _ (Value.ref _)) _ _ _)); (fail_if_success (with_reducible show wpAny _ _ (call (Value.type _) (Value.ref _ :: _)) _ _ _)); (fail_if_success (with_reducible show wpAny _ _ (call (Value.builtin _) (Value.ref _ :: _)) _ _ _)); (((fail_if_success (with_reducible show wpAny _ _ (call (Value.ref _) _) _ _ _)); (fail_if_success (with_reducible show wpAny _ _ (exec (Stmt.While _ _ _ _) _) _ _ _)))))); (first | (k_unfold; (try dsimp only)) | (k_end; wrow_close) | walk1 | (dsimp only; walk1) | (leave1; walk_say "STEP leave1"; try dsimp only) | fail "no step")))
    have l9a := fun p hp => Nat.ne_of_gt (l9 p hp)
    with_unfolding_all exact compEnd_in (tl2 := (D₄, W.listOf (List.toArray v7) c4) :: t6) (d := lP l) F9 N9 (by (first | (walk_at "MY subB") | (walk_say "OLDSUB"; ((intro p hp; (try simp only [List.mem_cons, List.mem_append, List.cons_append, List.nil_append, List.append_nil, List.not_mem_nil, or_false, false_or, or_assoc] at hp ⊢); first | (simp only [hp, true_or, or_true]; done) | (revert hp; (repeat (first | (with_reducible show (_ ∨ _) → _; refine or_imp.mpr ⟨fun hp => (by simp only [hp, true_or, or_true]), ?_⟩) | fail "no more")); (intro hp; simp only [hp, true_or, or_true]; done))))))) off (List.forall_mem_cons.mpr ⟨⟨l9a _ (.head _), l9a _ (.tail _ (.head _)), l9a _ (.tail _ (.tail _ (.head _)))⟩, fun p hp => off.mem p (List.mem_append.mpr (.inr (List.mem_append.mpr (.inr hp))))⟩) (fun l hl => .inr ⟨_, hl _ (List.mem_append.mpr (.inr hm6)), rfl, _, rfl⟩) hR (Rf.list (.head _) (hR7.mono fun p hp => .tail _ hp)) hs1
  · intro g9 tl' ys hR
    intro D₂ h9 tk9 F9 N9 o9
    rw [show (l0 :: ls).take _ = l0 :: ls by rw [List.take_of_length_le]; rw [hv6]; exact Nat.le_refl _] at hR
    (try dsimp only)
    (repeat' ((((fail_if_success (with_reducible show wpAny _ _ (call (Value.builtin "len") _) _ _ _)); (fail_if_success (with_reducible show wpAny _ _ (call (Value.type "list") _) _ _ _)); (fail_if_success (with_reducible show wpAny _ _ (compareOp _ (Value.ref _) _) _ _ _)); (fail_if_success (with_reducible show wpAny _ _ (compareOp _ _ (Value.ref _)) _ _ _)); (fail_if_success (with_reducible show wpAny _ _ (call (Value.type _) (Value.ref _ :: _)) _ _ _)); (fail_if_success (with_reducible show wpAny _ _ (call (Value.builtin _) (Value.ref _ :: _)) _ _ _)); (((fail_if_success (with_reducible show wpAny _ _ (call (Value.ref _) _) _ _ _)); (fail_if_success (with_reducible show wpAny _ _ (exec (Stmt.While _ _ _ _) _) _ _ _)))))); (first | (k_unfold; (try dsimp only)) | (k_end; wrow_close) | walk1 | (dsimp only; walk1) | (leave1; walk_say "STEP leave1"; try dsimp only) | fail "no step")))
    have hcmp : Rf ((D₂, LCg.lst ys) :: tl') (.ref D₂) (llP (l0 :: ls)) := Rf.list (.head _) (hR.mono fun p hp => .tail _ hp)
    with_unfolding_all refine ne_same (hcmp.at N9 (by (first | (walk_at "MY subB") | (walk_say "OLDSUB"; ((intro p hp; (try simp only [List.mem_cons, List.mem_append, List.cons_append, List.nil_append, List.append_nil, List.not_mem_nil, or_false, false_or, or_assoc] at hp ⊢); first | (simp only [hp, true_or, or_true]; done) | (revert hp; (repeat (first | (with_reducible show (_ ∨ _) → _; refine or_imp.mpr ⟨fun hp => (by simp only [hp, true_or, or_true]), ?_⟩) | fail "no more")); (intro hp; simp only [hp, true_or, or_true]; done)))))))) (PL.rf.at N9 (by (first | (walk_at "MY subB") | (walk_say "OLDSUB"; ((intro p hp; (try simp only [List.mem_cons, List.mem_append, List.cons_append, List.nil_append, List.append_nil, List.not_mem_nil, or_false, false_or, or_assoc] at hp ⊢); first | (simp only [hp, true_or, or_true]; done) | (revert hp; (repeat (first | (with_reducible show (_ ∨ _) → _; refine or_imp.mpr ⟨fun hp => (by simp only [hp, true_or, or_true]), ?_⟩) | fail "no more")); (intro hp; simp only [hp, true_or, or_true]; done)))))))) (shaped_llP _) (show (7 : Nat) + 64 < cLine by decide) ?_
    have N8 := News.sub (b := (K, W.listOf (List.toArray ks) nk) :: (F, W.listOf (List.toArray fs) nf) :: (A, W.listOf (List.toArray as) na) :: (tl ++ own ++ tw ++ tL ++ tK)) N9 (by (first | (walk_at "MY subB") | (walk_say "OLDSUB"; ((intro p hp; (try simp only [List.mem_cons, List.mem_append, List.cons_append, List.nil_append, List.append_nil, List.not_mem_nil, or_false, false_or, or_assoc] at hp ⊢); first | (simp only [hp, true_or, or_true]; done) | (revert hp; (repeat (first | (with_reducible show (_ ∨ _) → _; refine or_imp.mpr ⟨fun hp => (by simp only [hp, true_or, or_true]), ?_⟩) | fail "no more")); (intro hp; simp only [hp, true_or, or_true]; done)))))))
    clear N9 F6 N6 hcmp o9 hR
    (repeat' ((((fail_if_success (with_reducible show wpAny _ _ (call (Value.builtin "len") _) _ _ _)); (fail_if_success (with_reducible show wpAny _ _ (call (Value.type "list") _) _ _ _)); (fail_if_success (with_reducible show wpAny _ _ (compareOp _ (Value.ref _) _) _ _ _)); (fail_if_success (with_reducible show wpAny _ _ (compareOp _ _ (Value.ref _)) _ _ _)); (fail_if_success (with_reducible show wpAny _ _ (call (Value.type _) (Value.ref _ :: _)) _ _ _)); (fail_if_success (with_reducible show wpAny _ _ (call (Value.builtin _) (Value.ref _ :: _)) _ _ _)); (((fail_if_success (with_reducible show wpAny _ _ (call (Value.ref _) _) _ _ _)); (fail_if_success (with_reducible show wpAny _ _ (exec (Stmt.While _ _ _ _) _) _ _ _)))))); (first | (k_unfold; (try dsimp only)) | (k_end; wrow_close) | walk1 | (dsimp only; walk1) | (leave1; walk_say "STEP leave1"; try dsimp only) | fail "no step")))
    have oO : ∀ p ∈ own, p.1 ≠ K ∧ p.1 ≠ F ∧ p.1 ≠ A := fun p hp => ⟨ho p hp _ (by walk_at "MY nm"), ho p hp _ (by walk_at "MY nm"), ho p hp _ (by walk_at "MY nm")⟩
    have oT : OwnOff own (tl.map (·.1)) := fun p hp b hb => ho p hp b (by simp only [List.map_cons, List.mem_cons]; exact .inr (.inr (.inr hb)))
    have sR : ∀ p ∈ tl ++ own ++ tw ++ tL ++ tK, p.1 ≠ K ∧ p.1 ≠ F ∧ p.1 ≠ A := fun p hp => by
      simp only [List.mem_append] at hp
      rcases hp with (((hp | hp) | hp) | hp) | hp
      · exact hsep p hp
      · exact oO p hp
      · exact sW p hp
      · exact sL p hp
      · exact sK p hp
    with_unfolding_all refine append_to ((K, W.listOf (List.toArray ks) nk) :: (A, W.listOf (List.toArray as) na) :: (tl ++ own ++ tw ++ tL ++ tK)) F9 N8 (by k_mem) (by (first | (walk_at "MY subB") | (walk_say "OLDSUB"; ((intro p hp; (try simp only [List.mem_cons, List.mem_append, List.cons_append, List.nil_append, List.append_nil, List.not_mem_nil, or_false, false_or, or_assoc] at hp ⊢); first | (simp only [hp, true_or, or_true]; done) | (revert hp; (repeat (first | (with_reducible show (_ ∨ _) → _; refine or_imp.mpr ⟨fun hp => (by simp only [hp, true_or, or_true]), ?_⟩) | fail "no more")); (intro hp; simp only [hp, true_or, or_true]; done))))))) (List.forall_mem_cons.mpr ⟨hKF, List.forall_mem_cons.mpr ⟨Ne.symm hFA, fun p hp => (sR p hp).2.1⟩⟩) (by first | exact fit100 (by assumption) | exact fit1000 (by assumption) | exact fit500 (by assumption) | (rw [sizeLine_eq]; omega)) fun h1 n1 F1 N1 => ?_
    (repeat' ((((fail_if_success (with_reducible show wpAny _ _ (call (Value.builtin "len") _) _ _ _)); (fail_if_success (with_reducible show wpAny _ _ (call (Value.type "list") _) _ _ _)); (fail_if_success (with_reducible show wpAny _ _ (compareOp _ (Value.ref _) _) _ _ _)); (fail_if_success (with_reducible show wpAny _ _ (compareOp _ _ (Value.ref _)) _ _ _)); (fail_if_success (with_reducible show wpAny _ _ (call (Value.type _) (Value.ref _ :: _)) _ _ _)); (fail_if_success (with_reducible show wpAny _ _ (call (Value.builtin _) (Value.ref _ :: _)) _ _ _)); (((fail_if_success (with_reducible show wpAny _ _ (call (Value.ref _) _) _ _ _)); (fail_if_success (with_reducible show wpAny _ _ (exec (Stmt.While _ _ _ _) _) _ _ _)))))); (first | (k_unfold; (try dsimp only)) | (k_end; wrow_close) | walk1 | (dsimp only; walk1) | (leave1; walk_say "STEP leave1"; try dsimp only) | fail "no step")))
    (rename Fr _ _ _ _ => F8); (rename News _ _ _ _ => N7)
    with_unfolding_all refine append_to ((F, W.listOf (List.toArray (fs ++ [Value.ref aw])) n1) :: (A, W.listOf (List.toArray as) na) :: (tl ++ own ++ tw ++ tL ++ tK)) F8 N7 (by k_mem) (by (first | (walk_at "MY subB") | (walk_say "OLDSUB"; ((intro p hp; (try simp only [List.mem_cons, List.mem_append, List.cons_append, List.nil_append, List.append_nil, List.not_mem_nil, or_false, false_or, or_assoc] at hp ⊢); first | (simp only [hp, true_or, or_true]; done) | (revert hp; (repeat (first | (with_reducible show (_ ∨ _) → _; refine or_imp.mpr ⟨fun hp => (by simp only [hp, true_or, or_true]), ?_⟩) | fail "no more")); (intro hp; simp only [hp, true_or, or_true]; done))))))) (List.forall_mem_cons.mpr ⟨Ne.symm hKF, List.forall_mem_cons.mpr ⟨Ne.symm hKA, fun p hp => (sR p hp).1⟩⟩) (by first | exact fit100 (by assumption) | exact fit1000 (by assumption) | exact fit500 (by assumption) | (rw [sizeLine_eq]; omega)) fun h2 n2 F2 N2 => ?_
    (repeat' ((((fail_if_success (with_reducible show wpAny _ _ (call (Value.builtin "len") _) _ _ _)); (fail_if_success (with_reducible show wpAny _ _ (call (Value.type "list") _) _ _ _)); (fail_if_success (with_reducible show wpAny _ _ (compareOp _ (Value.ref _) _) _ _ _)); (fail_if_success (with_reducible show wpAny _ _ (compareOp _ _ (Value.ref _)) _ _ _)); (fail_if_success (with_reducible show wpAny _ _ (call (Value.type _) (Value.ref _ :: _)) _ _ _)); (fail_if_success (with_reducible show wpAny _ _ (call (Value.builtin _) (Value.ref _ :: _)) _ _ _)); (((fail_if_success (with_reducible show wpAny _ _ (call (Value.ref _) _) _ _ _)); (fail_if_success (with_reducible show wpAny _ _ (exec (Stmt.While _ _ _ _) _) _ _ _)))))); (first | (k_unfold; (try dsimp only)) | (k_end; wrow_close) | walk1 | (dsimp only; walk1) | (leave1; walk_say "STEP leave1"; try dsimp only) | fail "no step")))
    (rename Fr _ _ _ _ => F7); (rename News _ _ _ _ => N6)
    with_unfolding_all refine append_to ((K, W.listOf (List.toArray (ks ++ [Value.ref ak])) n2) :: (F, W.listOf (List.toArray (fs ++ [Value.ref aw])) n1) :: (tl ++ own ++ tw ++ tL ++ tK)) F7 N6 (by k_mem) (by (first | (walk_at "MY subB") | (walk_say "OLDSUB"; ((intro p hp; (try simp only [List.mem_cons, List.mem_append, List.cons_append, List.nil_append, List.append_nil, List.not_mem_nil, or_false, false_or, or_assoc] at hp ⊢); first | (simp only [hp, true_or, or_true]; done) | (revert hp; (repeat (first | (with_reducible show (_ ∨ _) → _; refine or_imp.mpr ⟨fun hp => (by simp only [hp, true_or, or_true]), ?_⟩) | fail "no more")); (intro hp; simp only [hp, true_or, or_true]; done))))))) (List.forall_mem_cons.mpr ⟨hKA, List.forall_mem_cons.mpr ⟨hFA, fun p hp => (sR p hp).2.2⟩⟩) (by first | exact fit100 (by assumption) | exact fit1000 (by assumption) | exact fit500 (by assumption) | (rw [sizeLine_eq]; omega)) fun h3 n3 F3 N3 => ?_
    (repeat' ((((fail_if_success (with_reducible show wpAny _ _ (call (Value.builtin "len") _) _ _ _)); (fail_if_success (with_reducible show wpAny _ _ (call (Value.type "list") _) _ _ _)); (fail_if_success (with_reducible show wpAny _ _ (compareOp _ (Value.ref _) _) _ _ _)); (fail_if_success (with_reducible show wpAny _ _ (compareOp _ _ (Value.ref _)) _ _ _)); (fail_if_success (with_reducible show wpAny _ _ (call (Value.type _) (Value.ref _ :: _)) _ _ _)); (fail_if_success (with_reducible show wpAny _ _ (call (Value.builtin _) (Value.ref _ :: _)) _ _ _)); (((fail_if_success (with_reducible show wpAny _ _ (call (Value.ref _) _) _ _ _)); (fail_if_success (with_reducible show wpAny _ _ (exec (Stmt.While _ _ _ _) _) _ _ _)))))); (first | (k_unfold; (try dsimp only)) | (k_end; wrow_close) | walk1 | (dsimp only; walk1) | (leave1; walk_say "STEP leave1"; try dsimp only) | fail "no step")))
    (rename Fr _ _ _ _ => F6); (rename News _ _ _ _ => N5)
    have m1 := map_take_succ (keyOf how str bw) ess i es he
    have m2 := map_take_succ (RowW how) ess i es he
    have m3 := map_take_succ (RowL how str bw) ess i es he
    with_unfolding_all refine StJ.end [] ((K, W.listOf (List.toArray (ks ++ [Value.ref ak])) n2) :: (F, W.listOf (List.toArray (fs ++ [Value.ref aw])) n1) :: (A, W.listOf (List.toArray (as ++ [rL])) n3) :: (tl ++ (tw ++ (tL ++ tK)))) F6 N5 (by (first | (walk_at "MY subB") | (walk_say "OLDSUB"; ((intro p hp; (try simp only [List.mem_cons, List.mem_append, List.cons_append, List.nil_append, List.append_nil, List.not_mem_nil, or_false, false_or, or_assoc] at hp ⊢); first | (simp only [hp, true_or, or_true]; done) | (revert hp; (repeat (first | (with_reducible show (_ ∨ _) → _; refine or_imp.mpr ⟨fun hp => (by simp only [hp, true_or, or_true]), ?_⟩) | fail "no more")); (intro hp; simp only [hp, true_or, or_true]; done))))))) (by (first | (walk_at "MY subB") | (walk_say "OLDSUB"; ((intro p hp; (try simp only [List.mem_cons, List.mem_append, List.cons_append, List.nil_append, List.append_nil, List.not_mem_nil, or_false, false_or, or_assoc] at hp ⊢); first | (simp only [hp, true_or, or_true]; done) | (revert hp; (repeat (first | (with_reducible show (_ ∨ _) → _; refine or_imp.mpr ⟨fun hp => (by simp only [hp, true_or, or_true]), ?_⟩) | fail "no more")); (intro hp; simp only [hp, true_or, or_true]; done))))))) ?_ ⟨_, _, _, _, _, _, _, rfl, rfl, ?_, ?_, ?_, ?_⟩ (List.forall_mem_nil _) (by (first | (intro z h2 h3; (try dsimp only at h2); (repeat (first | exact skc h3 | (with_reducible exact rfl) | (refine sk (ne_in h3 (by with_reducible first | exact nm_head | exact nm_tail nm_head | exact nm_tail (nm_tail nm_head) | exact nm_tail (nm_tail (nm_tail nm_head)) | exact nm_tail (nm_tail (nm_tail (nm_tail nm_head))) | exact nm_tail (nm_tail (nm_tail (nm_tail (nm_tail nm_head)))) | exact nm_tail (nm_tail (nm_tail (nm_tail (nm_tail (nm_tail nm_head))))) | exact nm_tail (nm_tail (nm_tail (nm_tail (nm_tail (nm_tail (nm_tail nm_head)))))) | exact nm_tail (nm_tail (nm_tail (nm_tail (nm_tail (nm_tail (nm_tail (nm_tail nm_head))))))))) ?_) | (refine sk (ne_h h2) ?_) | (refine sk (ne_h (ne_t h2)) ?_) | (refine sk (ne_h (ne_t (ne_t h2))) ?_) | fail "no name")); done) | (walk_say "OLDSAME"; (((try dsimp +zetaDelta only); intro z h2 h3; (try simp only [List.forall_mem_cons, List.not_mem_nil, false_implies, implies_true, and_true, ne_eq] at h2); (have h4 := h3); (simp only [List.contains_cons, List.contains_nil, Bool.or_false, Bool.or_eq_false_iff, beq_eq_false_iff_ne, ne_eq] at h3); ((simp only [kstB, h2, h3, h4, if_false, Bool.false_eq_true]) <;> rfl))))))
    · intro p hp
      refine List.forall_mem_cons.mpr ⟨(oO p hp).1, List.forall_mem_cons.mpr ⟨(oO p hp).2.1, List.forall_mem_cons.mpr ⟨(oO p hp).2.2, fun b hb => ?_⟩⟩⟩
      rw [List.map_append, List.mem_append] at hb
      rcases hb with hb | hb
      · exact oT p hp b hb
      · obtain ⟨q, hq, rfl⟩ := List.mem_map.mp hb
        rcases List.mem_append.mp hq with hq | hq
        · exact Ne.symm (oW q hq p hp)
        · rcases List.mem_append.mp hq with hq | hq
          · exact Ne.symm (oL q hq p hp)
          · exact Ne.symm (oK q hq p hp)
    · rw [m1]
      refine (hRk.mono (by (first | (walk_at "MY subB") | (walk_say "OLDSUB"; ((intro p hp; (try simp only [List.mem_cons, List.mem_append, List.cons_append, List.nil_append, List.append_nil, List.not_mem_nil, or_false, false_or, or_assoc] at hp ⊢); first | (simp only [hp, true_or, or_true]; done) | (revert hp; (repeat (first | (with_reducible show (_ ∨ _) → _; refine or_imp.mpr ⟨fun hp => (by simp only [hp, true_or, or_true]), ?_⟩) | fail "no more")); (intro hp; simp only [hp, true_or, or_true]; done)))))))).append (.cons ?_ .nil)
      unfold keyOf levOf; rw [hLe]
      exact PK.mono (by (first | (walk_at "MY subB") | (walk_say "OLDSUB"; ((intro p hp; (try simp only [List.mem_cons, List.mem_append, List.cons_append, List.nil_append, List.append_nil, List.not_mem_nil, or_false, false_or, or_assoc] at hp ⊢); first | (simp only [hp, true_or, or_true]; done) | (revert hp; (repeat (first | (with_reducible show (_ ∨ _) → _; refine or_imp.mpr ⟨fun hp => (by simp only [hp, true_or, or_true]), ?_⟩) | fail "no more")); (intro hp; simp only [hp, true_or, or_true]; done)))))))
    · rw [m2]
      exact (hRf.mono (by (first | (walk_at "MY subB") | (walk_say "OLDSUB"; ((intro p hp; (try simp only [List.mem_cons, List.mem_append, List.cons_append, List.nil_append, List.append_nil, List.not_mem_nil, or_false, false_or, or_assoc] at hp ⊢); first | (simp only [hp, true_or, or_true]; done) | (revert hp; (repeat (first | (with_reducible show (_ ∨ _) → _; refine or_imp.mpr ⟨fun hp => (by simp only [hp, true_or, or_true]), ?_⟩) | fail "no more")); (intro hp; simp only [hp, true_or, or_true]; done)))))))).append (.cons (PW.mono (by (first | (walk_at "MY subB") | (walk_say "OLDSUB"; ((intro p hp; (try simp only [List.mem_cons, List.mem_append, List.cons_append, List.nil_append, List.append_nil, List.not_mem_nil, or_false, false_or, or_assoc] at hp ⊢); first | (simp only [hp, true_or, or_true]; done) | (revert hp; (repeat (first | (with_reducible show (_ ∨ _) → _; refine or_imp.mpr ⟨fun hp => (by simp only [hp, true_or, or_true]), ?_⟩) | fail "no more")); (intro hp; simp only [hp, true_or, or_true]; done)))))))) .nil)
    · rw [m3]
      refine (hRa.mono (by (first | (walk_at "MY subB") | (walk_say "OLDSUB"; ((intro p hp; (try simp only [List.mem_cons, List.mem_append, List.cons_append, List.nil_append, List.append_nil, List.not_mem_nil, or_false, false_or, or_assoc] at hp ⊢); first | (simp only [hp, true_or, or_true]; done) | (revert hp; (repeat (first | (with_reducible show (_ ∨ _) → _; refine or_imp.mpr ⟨fun hp => (by simp only [hp, true_or, or_true]), ?_⟩) | fail "no more")); (intro hp; simp only [hp, true_or, or_true]; done)))))))).append (.cons ?_ .nil)
      unfold RowL levOf; rw [hLe]
      exact PL.rf.mono (by (first | (walk_at "MY subB") | (walk_say "OLDSUB"; ((intro p hp; (try simp only [List.mem_cons, List.mem_append, List.cons_append, List.nil_append, List.append_nil, List.not_mem_nil, or_false, false_or, or_assoc] at hp ⊢); first | (simp only [hp, true_or, or_true]; done) | (revert hp; (repeat (first | (with_reducible show (_ ∨ _) → _; refine or_imp.mpr ⟨fun hp => (by simp only [hp, true_or, or_true]), ?_⟩) | fail "no more")); (intro hp; simp only [hp, true_or, or_true]; done)))))))
    · intro p hp
      simp only [List.mem_append] at hp
      rcases hp with hp | hp | hp | hp
      · exact hsep p hp
      · exact sW p hp
      · exact sL p hp
      · exact sK p hp
end

section
theorem top_off_L6 : True := by
  w_top off
  exact trivial
theorem pack2 {how : How} {str : Int} {bw : Bool} {g g0 h : Heap} {L K F A R ca : Addr} {ess : List (List Elem)} {ks fs as vsR cs' : List Value} {nk nf na n8 : Nat} {tl tlR : List (Addr × Obj)} {v : Value} (N : News g L h ((K, W.listOf (List.toArray ks) nk) :: (F, W.listOf (List.toArray fs) nf) :: (A, W.listOf (List.toArray as) na) :: (tl ++ (R, W.listOf (List.toArray vsR) n8) :: tlR)))
    (h1 : RLs tl ks (ess.map (keyOf how str bw))) (h2 : RfAll tl fs (ess.map (RowW how))) (h3 : RfAll tl as (ess.map (RowL how str bw))) (h4 : RfAll tlR vsR (ess.map (fun es => PyData.list (List.map eP es)))) (ho : OptIn g0 tlR v how str bw) (hc : (ca, LCg.lst cs') ∈ tlR) (s1 : ∀ p ∈ tl, p.1 ≠ K ∧ p.1 ≠ F ∧ p.1 ≠ A) (s2 : ∀ p ∈ (R, W.listOf (List.toArray vsR) n8) :: tlR, p.1 ≠ K ∧ p.1 ≠ F ∧ p.1 ≠ A) :
    ∃ rest, News g L h ((K, W.listOf (List.toArray ks) nk) :: (F, W.listOf (List.toArray fs) nf) :: (A, W.listOf (List.toArray as) na) :: rest) ∧ RLs rest ks (ess.map (keyOf how str bw)) ∧ RfAll rest fs (ess.map (RowW how)) ∧ RfAll rest as (ess.map (RowL how str bw)) ∧ RfAll rest vsR (ess.map (fun es => PyData.list (List.map eP es))) ∧ OptIn g0 rest v how str bw ∧ (ca, LCg.lst cs') ∈ rest ∧ (R, W.listOf (List.toArray vsR) n8) ∈ rest ∧ ∀ p ∈ rest, p.1 ≠ K ∧ p.1 ≠ F ∧ p.1 ≠ A := by
  have a1 : ∀ p ∈ tl, p ∈ tl ++ (R, W.listOf (List.toArray vsR) n8) :: tlR := fun p hp => List.mem_append.mpr (.inl hp)
  have a2 : ∀ p ∈ tlR, p ∈ tl ++ (R, W.listOf (List.toArray vsR) n8) :: tlR := fun p hp => List.mem_append.mpr (.inr (.tail _ hp))
  exact ⟨_, N, h1.mono a1, h2.mono a1, h3.mono a1, h4.mono a2, ho.mono a2, a2 _ hc, List.mem_append.mpr (.inr (.head _)), fun p hp => (List.mem_append.mp hp).elim (s1 p) (s2 p)⟩
set_option maxHeartbeats 8000000 in
noncomputable def SL6 : { P : Prop × Prop // PLift P.1 → PLift P.2 → SL3.1.2 } := by
  w_top off
  refine ⟨(?A, ?B), fun hNext0 hNext1 => ?_⟩
  rotate_left 2
  · intro law1y0 law1y1 law1y2 law1y3 law1y4 law1y5 law1y6 law1y7 law1y8 law1y9 law1y10 law1y11 law1y12 law1y13 KX law1y14 law1y15 law1y16 law1y17
      law1y18 law1y19 law1y20 law1y21 law1y22 law1y23 law1y24 law1y25 law1y26 law1y27 hSc law1y28 hlen63 law1y29 law1y30 law1y31 law1y32 law1y33 law1y34
      law1y35 law1y36 law1y37 law1y38 law1y39 sc hsc hS14 law1y40 law1y41 hS14l hscl law1y42 tl law1y43 law1y44 law1y45 law1y46 cs hcs hcr hcl hI hyl
      law1y47 law1y48 law1y49 law1y50 law1y51 law1y52 law1y53 law1y54 law1y55 law1y56 law1y57 wh law3dy0 law3dy1 law1y58 law1y59 how th law1y60 law1y61
      law1y62 law1y63 law1y64 law1y65 law1y66 law1y67 law1y68 law1y69 law1y70 law1y71 law1y72 law1y73 law1y74 law1y75 law1y76 law1y77 law1y78 law1y79
      law1y80 lifted qk ek tk5 law1y81 law1y82 law1y83 law1y84 law1y85 law1y86 law1y87 law1y88 law1y89 law1y90 law1y91 law1y92 law1y93 law1y94 law1y95
      law1y96 str hstr bw law1y97 tlO c1 law1y98 law1y99 law1y100 tlE ys D₂ law1y101 law1y102 law1y103 law1y104 law1y105 law1y106 c2 law1y107 law1y108
      g9 tlE2 ys2 hR D₃ law1y109 law1y110 law1y112 law1y113 law1y114 tlW h9 tk9 aW law1y115 law1y116 law1y118 h8 n8 tlR ess vsR hRows hGood hEl hOptR
      hCs law2gy1 law2gy4 law2gy7 law2gy9 law2gy10 law2gy12 law2gy13 law2gy14 law2gy16 law2gy17 law2gy19 law2gy20 A F K R law1y117 law2gy15 law2gy18
      law2gy2 law2gy5 law2gy8 law2gy11 law2gy21 lF lN sep hKF hKA hFA ps u nx h tk hG ho F₁ N₁
    (have hhX := KX); revert hhX; k_fill; intro hhX; clear hhX
    ((try with_reducible show wpAny _ _ _ _ _ _); (try k_fold))
    obtain ⟨ks, fs, as, nk, nf, na, tl, rfl, rfl, hRk, hRf, hRa, hsep⟩ := hG
    have hvl := hRows.length
    rw [List.length_map] at hvl
    have e1 : ess.take vsR.length = ess := by rw [hvl, List.take_length]
    rw [e1] at hRk hRf hRa
    clear lF lN e1
    simp only [List.cons_append] at N₁
    obtain ⟨rest, N8, hRk, hRf, hRa, hRw, hOpt, hCs2, hRm, hsep⟩ := pack2 N₁ hRk hRf hRa hRows hOptR hCs hsep sep
    clear N₁ hRows hOptR hCs sep
    have hl1 := hRk.length
    have hl2 := hRf.length
    have hl3 := hRa.length
    rw [List.length_map, hEl] at hl1 hl2 hl3
    rw [hEl] at hvl
    (with_reducible show wpAny _ _ _ _ _ _); (try k_fold)
    (repeat' ((((fail_if_success (with_reducible show wpAny _ _ (call (Value.builtin "len") _) _ _ _)); (fail_if_success (with_reducible show wpAny _ _ (call (Value.type "list") _) _ _ _)); (fail_if_success (with_reducible show wpAny _ _ (compareOp _ (Value.ref _) _) _ _ _)); (fail_if_success (with_reducible show wpAny _ _ (compareOp _ _ (Value.ref _)) _ _ _)); (fail_if_success (with_reducible show wpAny _ _ (call (Value.type _) (Value.ref _ :: _)) _ _ _)); (fail_if_success (with_reducible show wpAny _ _ (call (Value.builtin _) (Value.ref _ :: _)) _ _ _)); (((fail_if_success (with_reducible show wpAny _ _ (call (Value.ref _) _) _ _ _)); (fail_if_success (with_reducible show wpAny _ _ (exec (Stmt.While _ _ _ _) _) _ _ _)))))); (first | (k_unfold; (try dsimp only)) | (k_end; wrow_close) | walk1 | (dsimp only; walk1) | (leave1; walk_say "STEP leave1"; try dsimp only) | fail "no step")))
    (rename Fr _ _ _ _ => lF); (rename News _ _ _ _ => lN); (rename IsRange _ _ _ _ _ _ _ _ => lR)
    with_unfolding_all refine for_stR (n := 3) ((K, W.listOf (List.toArray ks) nk) :: (F, W.listOf (List.toArray fs) nf) :: (A, W.listOf (List.toArray as) na) :: rest) (fun _ ps nx => ps = [] ∧ nx = ((K, W.listOf (List.toArray ks) nk) :: (F, W.listOf (List.toArray fs) nf) :: (A, W.listOf (List.toArray as) na) :: rest)) [] [(Str.ofString "k"), (Str.ofString "due"), (Str.ofString "told"), (Str.ofString "near"), (Str.ofString "far")] rfl lF lN (fun p hp => hp) lR ?_ ?_ ⟨rfl, rfl⟩ (List.forall_mem_nil _) ?_ ?_
    · exact small_one (by omega) (by omega) (by omega) (by omega)
    · decide
    · clear lF lN lR
      intro i t ps u nx h tk own hi ho hp9a F₁ N₁
      ((try with_reducible show wpAny _ _ _ _ _ _); (try k_fold))
      obtain ⟨rfl, rfl⟩ := hp9a
      rename_i law6ty0 law6ty1 law6ty2 law6ty3 law6ty4 law6ty5 law6ty6 law6ty7 law6ty8 law6ty9 law6ty10 law6ty11 law6ty12 law6ty13 law6ty14 law6ty15
        law6ty16 law6ty17 law6ty18
      revert law1y0 law1y1 law1y2 law1y3 law1y4 law1y5 law1y6 law1y7 law1y8 law1y9 law1y10 law1y11 law1y12 law1y13 KX law1y14 law1y15 law1y16 law1y17
        law1y18 law1y19 law1y20 law1y21 law1y22 law1y23 law1y24 law1y25 law1y26 law1y27 hSc law1y28 hlen63 law1y29 law1y30 law1y31 law1y32 law1y33
        law1y34 law1y35 law1y36 law1y37 law1y38 law1y39 sc hsc hS14 law1y40 law1y41 hS14l hscl law1y42 law6ty0 law1y43 law1y44 law1y45 law1y46 cs hcs
        hcr hcl hI hyl law1y47 law1y48 law1y49 law1y50 law1y51 law1y52 law1y53 law1y54 law1y55 law1y56 law1y57 wh law3dy0 law3dy1 law1y58 law1y59 how th
        law1y60 law1y61 law1y62 law1y63 law1y64 law1y65 law1y66 law1y67 law1y68 law1y69 law1y70 law1y71 law1y72 law1y73 law1y74 law1y75 law1y76 law1y77
        law1y78 law1y79 law1y80 lifted law6ty1 law6ty2 tk5 law1y81 law1y82 law1y83 law1y84 law1y85 law1y86 law1y87 law1y88 law1y89 law1y90 law1y91
        law1y92 law1y93 law1y94 law1y95 law1y96 str hstr bw law1y97 tlO c1 law1y98 law1y99 law1y100 tlE ys D₂ law1y101 law1y102 law1y103 law1y104
        law1y105 law1y106 c2 law1y107 law1y108 g9 tlE2 ys2 hR D₃ law1y109 law1y110 law1y112 law1y113 law1y114 tlW h9 tk9 aW law1y115 law1y116 law1y118
        h8 n8 tlR ess vsR hGood hEl law2gy1 law2gy4 law2gy7 law2gy9 law2gy10 law2gy12 law2gy13 law2gy14 law2gy16 law2gy17 law2gy19 law2gy20 A F K R
        law1y117 law2gy15 law2gy18 law2gy2 law2gy5 law2gy8 law2gy11 law2gy21 hKF hKA hFA law6ty3 law6ty4 law6ty5 ks fs as nk nf na tl law6ty6 law6ty7
        law6ty8 law6ty9 law6ty10 law6ty11 hvl rest law6ty12 hRk hRf hRa hRw hOpt hCs2 hRm hsep hl1 hl2 hl3 law6ty13 law6ty14 law6ty15 law6ty16 law6ty17
        law6ty18 i t u h tk own hi qk ek F₁ ho N₁
      exact hNext0.down
    · clear lF lN lR
      intro ps u nx h tk hp9a F₁ N₁
      ((try with_reducible show wpAny _ _ _ _ _ _); (try k_fold))
      obtain ⟨rfl, rfl⟩ := hp9a
      rename_i law6dy0 law6dy1 law6dy2 law6dy3 law6dy4 law6dy5 law6dy6 law6dy7 law6dy8 law6dy9 law6dy10 law6dy11 law6dy12 law6dy13 law6dy14 law6dy15
      revert law1y0 law1y1 law1y2 law1y3 law1y4 law1y5 law1y6 law1y7 law1y8 law1y9 law1y10 law1y11 law1y12 law1y13 KX law1y14 law1y15 law1y16 law1y17
        law1y18 law1y19 law1y20 law1y21 law1y22 law1y23 law1y24 law1y25 law1y26 law1y27 hSc law1y28 hlen63 law1y29 law1y30 law1y31 law1y32 law1y33
        law1y34 law1y35 law1y36 law1y37 law1y38 law1y39 sc hsc hS14 law1y40 law1y41 hS14l hscl law1y42 law6dy0 law1y43 law1y44 law1y45 law1y46 cs hcs
        hcr hcl hI hyl law1y47 law1y48 law1y49 law1y50 law1y51 law1y52 law1y53 law1y54 law1y55 law1y56 law1y57 wh law3dy0 law3dy1 law1y58 law1y59 how th
        law1y60 law1y61 law1y62 law1y63 law1y64 law1y65 law1y66 law1y67 law1y68 law1y69 law1y70 law1y71 law1y72 law1y73 law1y74 law1y75 law1y76 law1y77
        law1y78 law1y79 law1y80 lifted qk ek tk5 law1y81 law1y82 law1y83 law1y84 law1y85 law1y86 law1y87 law1y88 law1y89 law1y90 law1y91 law1y92 law1y93
        law1y94 law1y95 law1y96 str hstr bw law1y97 tlO c1 law1y98 law1y99 law1y100 tlE ys D₂ law1y101 law1y102 law1y103 law1y104 law1y105 law1y106 c2
        law1y107 law1y108 g9 tlE2 ys2 hR D₃ law1y109 law1y110 law1y112 law1y113 law1y114 tlW h9 tk9 aW law1y115 law1y116 law1y118 h8 n8 tlR ess vsR
        hGood hEl law2gy1 law2gy4 law2gy7 law2gy9 law2gy10 law2gy12 law2gy13 law2gy14 law2gy16 law2gy17 law2gy19 law2gy20 A F K R law1y117 law2gy15
        law2gy18 law2gy2 law2gy5 law2gy8 law2gy11 law2gy21 hKF hKA hFA law6dy1 law6dy2 law6dy3 ks fs as nk nf na tl law6dy4 ho law6dy5 law6dy6 law6dy7
        law6dy8 hvl rest law6dy9 hRk hRf hRa hRw hOpt hCs2 hRm hsep hl1 hl2 hl3 law6dy10 law6dy11 law6dy12 law6dy13 law6dy14 law6dy15 u h tk F₁ N₁
      exact hNext1.down
end

section
theorem top_off_L7 : True := by
  w_top off
  exact trivial
set_option maxHeartbeats 16000000 in
theorem SL7 : SL6.1.1 := by
  w_top off
  intro law1y0 law1y1 law1y2 law1y3 law1y4 law1y5 law1y6 law1y7 law1y8 law1y9 law1y10 law1y11 law1y12 law1y13 KX law1y14 law1y15 law1y16 law1y17
    law1y18 law1y19 law1y20 law1y21 law1y22 law1y23 law1y24 law1y25 law1y26 law1y27 hSc law1y28 hlen63 law1y29 law1y30 law1y31 law1y32 law1y33 law1y34
    law1y35 law1y36 law1y37 law1y38 law1y39 sc hsc hS14 law1y40 law1y41 hS14l hscl law1y42 law6ty0 law1y43 law1y44 law1y45 law1y46 cs hcs hcr hcl hI
    hyl law1y47 law1y48 law1y49 law1y50 law1y51 law1y52 law1y53 law1y54 law1y55 law1y56 law1y57 wh law3dy0 law3dy1 law1y58 law1y59 how th law1y60
    law1y61 law1y62 law1y63 law1y64 law1y65 law1y66 law1y67 law1y68 law1y69 law1y70 law1y71 law1y72 law1y73 law1y74 law1y75 law1y76 law1y77 law1y78
    law1y79 law1y80 lifted law6ty1 law6ty2 tk5 law1y81 law1y82 law1y83 law1y84 law1y85 law1y86 law1y87 law1y88 law1y89 law1y90 law1y91 law1y92 law1y93
    law1y94 law1y95 law1y96 str hstr bw law1y97 tlO c1 law1y98 law1y99 law1y100 tlE ys D₂ law1y101 law1y102 law1y103 law1y104 law1y105 law1y106 c2
    law1y107 law1y108 g9 tlE2 ys2 hR D₃ law1y109 law1y110 law1y112 law1y113 law1y114 tlW h9 tk9 aW law1y115 law1y116 law1y118 h8 n8 tlR ess vsR hGood
    hEl law2gy1 law2gy4 law2gy7 law2gy9 law2gy10 law2gy12 law2gy13 law2gy14 law2gy16 law2gy17 law2gy19 law2gy20 A F K R law1y117 law2gy15 law2gy18
    law2gy2 law2gy5 law2gy8 law2gy11 law2gy21 hKF hKA hFA law6ty3 law6ty4 law6ty5 ks fs as nk nf na tl law6ty6 law6ty7 law6ty8 law6ty9 law6ty10
    law6ty11 hvl rest law6ty12 hRk hRf hRa hRw hOpt hCs2 hRm hsep hl1 hl2 hl3 law6ty13 law6ty14 law6ty15 law6ty16 law6ty17 law6ty18 i t u h tk own hi
    qk ek F₁ ho N₁
  (have hhX := KX); revert hhX; k_fill; intro hhX; clear hhX
  change Fr _ _ h _ at F₁; change News _ _ h _ at N₁
  obtain ⟨e, he⟩ : ∃ e, ess[i]? = some e := ⟨_, List.getElem?_eq_getElem (by omega)⟩
  obtain ⟨e', he'⟩ : ∃ e', ess[prevI i]? = some e' := ⟨_, List.getElem?_eq_getElem (by unfold prevI; split <;> omega)⟩
  have hA := lev_all how str bw e hstr (hGood e (List.mem_of_getElem? he))
  have hA' := lev_all how str bw e' hstr (hGood e' (List.mem_of_getElem? he'))
  obtain ⟨kv, hk1, hk2⟩ := rls_at hRk he
  obtain ⟨kv', hk1', hk2'⟩ := rls_at hRk he'
  obtain ⟨fv, hf1, hf2⟩ := rfa_at hRf he
  obtain ⟨fv', hf1', hf2'⟩ := rfa_at hRf he'
  obtain ⟨av, ha1, ha2⟩ := rfa_at hRa he
  obtain ⟨av', ha1', ha2'⟩ := rfa_at hRa he'
  simp only [List.cons_append] at N₁
  clear hRk hRf hRa hGood he he'
  (with_reducible show wpAny _ _ _ _ _ _); (try k_fold)
  (repeat' ((fail_if_success (with_reducible show wpAny _ _ (subscriptTail _ _ (Value.ref _) _) _ _ _)); (((fail_if_success (with_reducible show wpAny _ _ (call (Value.builtin "len") _) _ _ _)); (fail_if_success (with_reducible show wpAny _ _ (call (Value.type "list") _) _ _ _)); (fail_if_success (with_reducible show wpAny _ _ (compareOp _ (Value.ref _) _) _ _ _)); (fail_if_success (with_reducible show wpAny _ _ (compareOp _ _ (Value.ref _)) _ _ _)); (fail_if_success (with_reducible show wpAny _ _ (call (Value.type _) (Value.ref _ :: _)) _ _ _)); (fail_if_success (with_reducible show wpAny _ _ (call (Value.builtin _) (Value.ref _ :: _)) _ _ _)); (((fail_if_success (with_reducible show wpAny _ _ (call (Value.ref _) _) _ _ _)); (fail_if_success (with_reducible show wpAny _ _ (exec (Stmt.While _ _ _ _) _) _ _ _)))))); (first | (k_unfold; (try dsimp only)) | (k_end; wrow_close) | walk1 | (dsimp only; walk1) | (leave1; walk_say "STEP leave1"; try dsimp only) | fail "no step")))
  (rename Fr _ _ _ _ => F9); (rename News _ _ _ _ => N9)
  with_unfolding_all refine list_at (us := as) (isListN N9 (by k_mem)) (at_k ha1) (by omega) (by omega) ?_ (by with_unfolding_all rfl)
  (repeat' ((fail_if_success (with_reducible show wpAny _ _ (subscriptTail _ _ (Value.ref _) _) _ _ _)); (((fail_if_success (with_reducible show wpAny _ _ (call (Value.builtin "len") _) _ _ _)); (fail_if_success (with_reducible show wpAny _ _ (call (Value.type "list") _) _ _ _)); (fail_if_success (with_reducible show wpAny _ _ (compareOp _ (Value.ref _) _) _ _ _)); (fail_if_success (with_reducible show wpAny _ _ (compareOp _ _ (Value.ref _)) _ _ _)); (fail_if_success (with_reducible show wpAny _ _ (call (Value.type _) (Value.ref _ :: _)) _ _ _)); (fail_if_success (with_reducible show wpAny _ _ (call (Value.builtin _) (Value.ref _ :: _)) _ _ _)); (((fail_if_success (with_reducible show wpAny _ _ (call (Value.ref _) _) _ _ _)); (fail_if_success (with_reducible show wpAny _ _ (exec (Stmt.While _ _ _ _) _) _ _ _)))))); (first | (k_unfold; (try dsimp only)) | (k_end; wrow_close) | walk1 | (dsimp only; walk1) | (leave1; walk_say "STEP leave1"; try dsimp only) | fail "no step")))
  with_unfolding_all refine' Con.use (con_lkeyL (levOf how str bw e) hA.ne (Nat.le_trans hA.le (by decide)) hA.len) ?k1 ?k2 ?k3 ?k4 ?k5 ?kK ?kP ?kd ?ku ?_
  (((((case k1 => k_asm); (case k2 => k_asm); (case k3 => k_asm); (case k4 => k_asm); (case k5 => k_asm); (case kK => first | exact rfl | assumption))); (case kd => decide); (case ku => decide)))
  case kP => exact ⟨_, rfl, ha2.at (by assumption) (by (first | (walk_at "MY subB") | (walk_say "OLDSUB"; ((intro p hp; (try simp only [List.mem_cons, List.mem_append, List.cons_append, List.nil_append, List.append_nil, List.not_mem_nil, or_false, false_or, or_assoc] at hp ⊢); first | (simp only [hp, true_or, or_true]; done) | (revert hp; (repeat (first | (with_reducible show (_ ∨ _) → _; refine or_imp.mpr ⟨fun hp => (by simp only [hp, true_or, or_true]), ?_⟩) | fail "no more")); (intro hp; simp only [hp, true_or, or_true]; done)))))))⟩
  intro r1 t1 h1 tk1 F1 N1 of1 P1
  clear of1
  (repeat' ((fail_if_success (with_reducible show wpAny _ _ (subscriptTail _ _ (Value.ref _) _) _ _ _)); (((fail_if_success (with_reducible show wpAny _ _ (call (Value.builtin "len") _) _ _ _)); (fail_if_success (with_reducible show wpAny _ _ (call (Value.type "list") _) _ _ _)); (fail_if_success (with_reducible show wpAny _ _ (compareOp _ (Value.ref _) _) _ _ _)); (fail_if_success (with_reducible show wpAny _ _ (compareOp _ _ (Value.ref _)) _ _ _)); (fail_if_success (with_reducible show wpAny _ _ (call (Value.type _) (Value.ref _ :: _)) _ _ _)); (fail_if_success (with_reducible show wpAny _ _ (call (Value.builtin _) (Value.ref _ :: _)) _ _ _)); (((fail_if_success (with_reducible show wpAny _ _ (call (Value.ref _) _) _ _ _)); (fail_if_success (with_reducible show wpAny _ _ (exec (Stmt.While _ _ _ _) _) _ _ _)))))); (first | (k_unfold; (try dsimp only)) | (k_end; wrow_close) | walk1 | (dsimp only; walk1) | (leave1; walk_say "STEP leave1"; try dsimp only) | fail "no step")))
  (rename Fr _ _ _ _ => F9); (rename News _ _ _ _ => N9)
  with_unfolding_all refine list_at (us := as) (isListN N9 (by k_mem)) (at_p hi hl3 ha1') (by omega) (by omega) ?_ (by with_unfolding_all rfl)
  (repeat' ((fail_if_success (with_reducible show wpAny _ _ (subscriptTail _ _ (Value.ref _) _) _ _ _)); (((fail_if_success (with_reducible show wpAny _ _ (call (Value.builtin "len") _) _ _ _)); (fail_if_success (with_reducible show wpAny _ _ (call (Value.type "list") _) _ _ _)); (fail_if_success (with_reducible show wpAny _ _ (compareOp _ (Value.ref _) _) _ _ _)); (fail_if_success (with_reducible show wpAny _ _ (compareOp _ _ (Value.ref _)) _ _ _)); (fail_if_success (with_reducible show wpAny _ _ (call (Value.type _) (Value.ref _ :: _)) _ _ _)); (fail_if_success (with_reducible show wpAny _ _ (call (Value.builtin _) (Value.ref _ :: _)) _ _ _)); (((fail_if_success (with_reducible show wpAny _ _ (call (Value.ref _) _) _ _ _)); (fail_if_success (with_reducible show wpAny _ _ (exec (Stmt.While _ _ _ _) _) _ _ _)))))); (first | (k_unfold; (try dsimp only)) | (k_end; wrow_close) | walk1 | (dsimp only; walk1) | (leave1; walk_say "STEP leave1"; try dsimp only) | fail "no step")))
  with_unfolding_all refine' Con.use (con_lkeyL (levOf how str bw e') hA'.ne (Nat.le_trans hA'.le (by decide)) hA'.len) ?k1 ?k2 ?k3 ?k4 ?k5 ?kK ?kP ?kd ?ku ?_
  (((((case k1 => k_asm); (case k2 => k_asm); (case k3 => k_asm); (case k4 => k_asm); (case k5 => k_asm); (case kK => first | exact rfl | assumption))); (case kd => decide); (case ku => decide)))
  case kP => exact ⟨_, rfl, ha2'.at (by assumption) (by (first | (walk_at "MY subB") | (walk_say "OLDSUB"; ((intro p hp; (try simp only [List.mem_cons, List.mem_append, List.cons_append, List.nil_append, List.append_nil, List.not_mem_nil, or_false, false_or, or_assoc] at hp ⊢); first | (simp only [hp, true_or, or_true]; done) | (revert hp; (repeat (first | (with_reducible show (_ ∨ _) → _; refine or_imp.mpr ⟨fun hp => (by simp only [hp, true_or, or_true]), ?_⟩) | fail "no more")); (intro hp; simp only [hp, true_or, or_true]; done)))))))⟩
  intro r2 t2 h2 tk2 F2 N2 of2 P2
  clear of2
  (repeat' ((fail_if_success (with_reducible show wpAny _ _ (subscriptTail _ _ (Value.ref _) _) _ _ _)); (((fail_if_success (with_reducible show wpAny _ _ (call (Value.builtin "len") _) _ _ _)); (fail_if_success (with_reducible show wpAny _ _ (call (Value.type "list") _) _ _ _)); (fail_if_success (with_reducible show wpAny _ _ (compareOp _ (Value.ref _) _) _ _ _)); (fail_if_success (with_reducible show wpAny _ _ (compareOp _ _ (Value.ref _)) _ _ _)); (fail_if_success (with_reducible show wpAny _ _ (call (Value.type _) (Value.ref _ :: _)) _ _ _)); (fail_if_success (with_reducible show wpAny _ _ (call (Value.builtin _) (Value.ref _ :: _)) _ _ _)); (((fail_if_success (with_reducible show wpAny _ _ (call (Value.ref _) _) _ _ _)); (fail_if_success (with_reducible show wpAny _ _ (exec (Stmt.While _ _ _ _) _) _ _ _)))))); (first | (k_unfold; (try dsimp only)) | (k_end; wrow_close) | walk1 | (dsimp only; walk1) | (leave1; walk_say "STEP leave1"; try dsimp only) | fail "no step")))
  with_unfolding_all refine' Con.use (con_sign (keyOf how str bw e) (keyOf how str bw e') (Nat.le_trans hA.klen (by decide)) (Nat.le_trans hA'.klen (by decide))) ?k1 ?k2 ?k3 ?k4 ?k5 ?kK ?kP ?kd ?ku ?_
  (((((case k1 => k_asm); (case k2 => k_asm); (case k3 => k_asm); (case k4 => k_asm); (case k5 => k_asm); (case kK => first | exact rfl | assumption))); (case kd => decide); (case ku => decide)))
  case kP => exact ⟨_, _, rfl, P1.at (by assumption) (by (first | (walk_at "MY subB") | (walk_say "OLDSUB"; ((intro p hp; (try simp only [List.mem_cons, List.mem_append, List.cons_append, List.nil_append, List.append_nil, List.not_mem_nil, or_false, false_or, or_assoc] at hp ⊢); first | (simp only [hp, true_or, or_true]; done) | (revert hp; (repeat (first | (with_reducible show (_ ∨ _) → _; refine or_imp.mpr ⟨fun hp => (by simp only [hp, true_or, or_true]), ?_⟩) | fail "no more")); (intro hp; simp only [hp, true_or, or_true]; done))))))), P2.at (by assumption) (by (first | (walk_at "MY subB") | (walk_say "OLDSUB"; ((intro p hp; (try simp only [List.mem_cons, List.mem_append, List.cons_append, List.nil_append, List.append_nil, List.not_mem_nil, or_false, false_or, or_assoc] at hp ⊢); first | (simp only [hp, true_or, or_true]; done) | (revert hp; (repeat (first | (with_reducible show (_ ∨ _) → _; refine or_imp.mpr ⟨fun hp => (by simp only [hp, true_or, or_true]), ?_⟩) | fail "no more")); (intro hp; simp only [hp, true_or, or_true]; done)))))))⟩
  intro r3 t3 h3 tk3 F3 N3 of3 P3
  obtain ⟨td, rfl⟩ := P3
  have N8 := News.sub (b := (K, W.listOf (List.toArray ks) nk) :: (F, W.listOf (List.toArray fs) nf) :: (A, W.listOf (List.toArray as) na) :: (rest ++ own)) N3 (by (first | (walk_at "MY subB") | (walk_say "OLDSUB"; ((intro p hp; (try simp only [List.mem_cons, List.mem_append, List.cons_append, List.nil_append, List.append_nil, List.not_mem_nil, or_false, false_or, or_assoc] at hp ⊢); first | (simp only [hp, true_or, or_true]; done) | (revert hp; (repeat (first | (with_reducible show (_ ∨ _) → _; refine or_imp.mpr ⟨fun hp => (by simp only [hp, true_or, or_true]), ?_⟩) | fail "no more")); (intro hp; simp only [hp, true_or, or_true]; done)))))))
  clear N3 of3 P1 P2
  (repeat' ((fail_if_success (with_reducible show wpAny _ _ (subscriptTail _ _ (Value.ref _) _) _ _ _)); (((fail_if_success (with_reducible show wpAny _ _ (call (Value.builtin "len") _) _ _ _)); (fail_if_success (with_reducible show wpAny _ _ (call (Value.type "list") _) _ _ _)); (fail_if_success (with_reducible show wpAny _ _ (compareOp _ (Value.ref _) _) _ _ _)); (fail_if_success (with_reducible show wpAny _ _ (compareOp _ _ (Value.ref _)) _ _ _)); (fail_if_success (with_reducible show wpAny _ _ (call (Value.type _) (Value.ref _ :: _)) _ _ _)); (fail_if_success (with_reducible show wpAny _ _ (call (Value.builtin _) (Value.ref _ :: _)) _ _ _)); (((fail_if_success (with_reducible show wpAny _ _ (call (Value.ref _) _) _ _ _)); (fail_if_success (with_reducible show wpAny _ _ (exec (Stmt.While _ _ _ _) _) _ _ _)))))); (first | (k_unfold; (try dsimp only)) | (k_end; wrow_close) | walk1 | (dsimp only; walk1) | (leave1; walk_say "STEP leave1"; try dsimp only) | fail "no step")))
  (rename Fr _ _ _ _ => F9); (rename News _ _ _ _ => N9)
  with_unfolding_all refine list_at (us := ks) (isListN N9 (by k_mem)) (at_k hk1) (by omega) (by omega) ?_ (by with_unfolding_all rfl)
  (repeat' ((fail_if_success (with_reducible show wpAny _ _ (subscriptTail _ _ (Value.ref _) _) _ _ _)); (((fail_if_success (with_reducible show wpAny _ _ (call (Value.builtin "len") _) _ _ _)); (fail_if_success (with_reducible show wpAny _ _ (call (Value.type "list") _) _ _ _)); (fail_if_success (with_reducible show wpAny _ _ (compareOp _ (Value.ref _) _) _ _ _)); (fail_if_success (with_reducible show wpAny _ _ (compareOp _ _ (Value.ref _)) _ _ _)); (fail_if_success (with_reducible show wpAny _ _ (call (Value.type _) (Value.ref _ :: _)) _ _ _)); (fail_if_success (with_reducible show wpAny _ _ (call (Value.builtin _) (Value.ref _ :: _)) _ _ _)); (((fail_if_success (with_reducible show wpAny _ _ (call (Value.ref _) _) _ _ _)); (fail_if_success (with_reducible show wpAny _ _ (exec (Stmt.While _ _ _ _) _) _ _ _)))))); (first | (k_unfold; (try dsimp only)) | (k_end; wrow_close) | walk1 | (dsimp only; walk1) | (leave1; walk_say "STEP leave1"; try dsimp only) | fail "no step")))
  (rename Fr _ _ _ _ => F9); (rename News _ _ _ _ => N9)
  with_unfolding_all refine list_at (us := ks) (isListN N9 (by k_mem)) (at_p hi hl1 hk1') (by omega) (by omega) ?_ (by with_unfolding_all rfl)
  (repeat' ((fail_if_success (with_reducible show wpAny _ _ (subscriptTail _ _ (Value.ref _) _) _ _ _)); (((fail_if_success (with_reducible show wpAny _ _ (call (Value.builtin "len") _) _ _ _)); (fail_if_success (with_reducible show wpAny _ _ (call (Value.type "list") _) _ _ _)); (fail_if_success (with_reducible show wpAny _ _ (compareOp _ (Value.ref _) _) _ _ _)); (fail_if_success (with_reducible show wpAny _ _ (compareOp _ _ (Value.ref _)) _ _ _)); (fail_if_success (with_reducible show wpAny _ _ (call (Value.type _) (Value.ref _ :: _)) _ _ _)); (fail_if_success (with_reducible show wpAny _ _ (call (Value.builtin _) (Value.ref _ :: _)) _ _ _)); (((fail_if_success (with_reducible show wpAny _ _ (call (Value.ref _) _) _ _ _)); (fail_if_success (with_reducible show wpAny _ _ (exec (Stmt.While _ _ _ _) _) _ _ _)))))); (first | (k_unfold; (try dsimp only)) | (k_end; wrow_close) | walk1 | (dsimp only; walk1) | (leave1; walk_say "STEP leave1"; try dsimp only) | fail "no step")))
  with_unfolding_all refine' Con.use (con_cmpl (keyOf how str bw e) (keyOf how str bw e') hA.klen hA'.klen) ?k1 ?k2 ?k3 ?k4 ?k5 ?kK ?kP ?kd ?ku ?_
  (((((case k1 => k_asm); (case k2 => k_asm); (case k3 => k_asm); (case k4 => k_asm); (case k5 => k_asm); (case kK => first | exact rfl | assumption))); (case kd => decide); (case ku => decide)))
  case kP => exact ⟨_, _, rfl, hk2.rf.at (by assumption) (by (first | (walk_at "MY subB") | (walk_say "OLDSUB"; ((intro p hp; (try simp only [List.mem_cons, List.mem_append, List.cons_append, List.nil_append, List.append_nil, List.not_mem_nil, or_false, false_or, or_assoc] at hp ⊢); first | (simp only [hp, true_or, or_true]; done) | (revert hp; (repeat (first | (with_reducible show (_ ∨ _) → _; refine or_imp.mpr ⟨fun hp => (by simp only [hp, true_or, or_true]), ?_⟩) | fail "no more")); (intro hp; simp only [hp, true_or, or_true]; done))))))), hk2'.rf.at (by assumption) (by (first | (walk_at "MY subB") | (walk_say "OLDSUB"; ((intro p hp; (try simp only [List.mem_cons, List.mem_append, List.cons_append, List.nil_append, List.append_nil, List.not_mem_nil, or_false, false_or, or_assoc] at hp ⊢); first | (simp only [hp, true_or, or_true]; done) | (revert hp; (repeat (first | (with_reducible show (_ ∨ _) → _; refine or_imp.mpr ⟨fun hp => (by simp only [hp, true_or, or_true]), ?_⟩) | fail "no more")); (intro hp; simp only [hp, true_or, or_true]; done)))))))⟩
  intro r4 t4 h4 tk4 F4 N4 of4 P4
  obtain ⟨td4, rfl⟩ := P4
  have N8 := News.sub (b := (K, W.listOf (List.toArray ks) nk) :: (F, W.listOf (List.toArray fs) nf) :: (A, W.listOf (List.toArray as) na) :: (rest ++ own)) N4 (by (first | (walk_at "MY subB") | (walk_say "OLDSUB"; ((intro p hp; (try simp only [List.mem_cons, List.mem_append, List.cons_append, List.nil_append, List.append_nil, List.not_mem_nil, or_false, false_or, or_assoc] at hp ⊢); first | (simp only [hp, true_or, or_true]; done) | (revert hp; (repeat (first | (with_reducible show (_ ∨ _) → _; refine or_imp.mpr ⟨fun hp => (by simp only [hp, true_or, or_true]), ?_⟩) | fail "no more")); (intro hp; simp only [hp, true_or, or_true]; done)))))))
  clear N4 of4
  (repeat' ((fail_if_success (with_reducible show wpAny _ _ (subscriptTail _ _ (Value.ref _) _) _ _ _)); (((fail_if_success (with_reducible show wpAny _ _ (call (Value.builtin "len") _) _ _ _)); (fail_if_success (with_reducible show wpAny _ _ (call (Value.type "list") _) _ _ _)); (fail_if_success (with_reducible show wpAny _ _ (compareOp _ (Value.ref _) _) _ _ _)); (fail_if_success (with_reducible show wpAny _ _ (compareOp _ _ (Value.ref _)) _ _ _)); (fail_if_success (with_reducible show wpAny _ _ (call (Value.type _) (Value.ref _ :: _)) _ _ _)); (fail_if_success (with_reducible show wpAny _ _ (call (Value.builtin _) (Value.ref _ :: _)) _ _ _)); (((fail_if_success (with_reducible show wpAny _ _ (call (Value.ref _) _) _ _ _)); (fail_if_success (with_reducible show wpAny _ _ (exec (Stmt.While _ _ _ _) _) _ _ _)))))); (first | (k_unfold; (try dsimp only)) | (k_end; wrow_close) | walk1 | (dsimp only; walk1) | (leave1; walk_say "STEP leave1"; try dsimp only) | fail "no step")))
  (rename Fr _ _ _ _ => F9); (rename News _ _ _ _ => N9)
  with_unfolding_all refine list_at (us := fs) (isListN N9 (by k_mem)) (at_k hf1) (by omega) (by omega) ?_ (by with_unfolding_all rfl)
  (repeat' ((fail_if_success (with_reducible show wpAny _ _ (subscriptTail _ _ (Value.ref _) _) _ _ _)); (((fail_if_success (with_reducible show wpAny _ _ (call (Value.builtin "len") _) _ _ _)); (fail_if_success (with_reducible show wpAny _ _ (call (Value.type "list") _) _ _ _)); (fail_if_success (with_reducible show wpAny _ _ (compareOp _ (Value.ref _) _) _ _ _)); (fail_if_success (with_reducible show wpAny _ _ (compareOp _ _ (Value.ref _)) _ _ _)); (fail_if_success (with_reducible show wpAny _ _ (call (Value.type _) (Value.ref _ :: _)) _ _ _)); (fail_if_success (with_reducible show wpAny _ _ (call (Value.builtin _) (Value.ref _ :: _)) _ _ _)); (((fail_if_success (with_reducible show wpAny _ _ (call (Value.ref _) _) _ _ _)); (fail_if_success (with_reducible show wpAny _ _ (exec (Stmt.While _ _ _ _) _) _ _ _)))))); (first | (k_unfold; (try dsimp only)) | (k_end; wrow_close) | walk1 | (dsimp only; walk1) | (leave1; walk_say "STEP leave1"; try dsimp only) | fail "no step")))
  (rename Fr _ _ _ _ => F9); (rename News _ _ _ _ => N9)
  with_unfolding_all refine list_at (us := fs) (isListN N9 (by k_mem)) (at_p hi hl2 hf1') (by omega) (by omega) ?_ (by with_unfolding_all rfl)
  (repeat' ((fail_if_success (with_reducible show wpAny _ _ (subscriptTail _ _ (Value.ref _) _) _ _ _)); (((fail_if_success (with_reducible show wpAny _ _ (call (Value.builtin "len") _) _ _ _)); (fail_if_success (with_reducible show wpAny _ _ (call (Value.type "list") _) _ _ _)); (fail_if_success (with_reducible show wpAny _ _ (compareOp _ (Value.ref _) _) _ _ _)); (fail_if_success (with_reducible show wpAny _ _ (compareOp _ _ (Value.ref _)) _ _ _)); (fail_if_success (with_reducible show wpAny _ _ (call (Value.type _) (Value.ref _ :: _)) _ _ _)); (fail_if_success (with_reducible show wpAny _ _ (call (Value.builtin _) (Value.ref _ :: _)) _ _ _)); (((fail_if_success (with_reducible show wpAny _ _ (call (Value.ref _) _) _ _ _)); (fail_if_success (with_reducible show wpAny _ _ (exec (Stmt.While _ _ _ _) _) _ _ _)))))); (first | (k_unfold; (try dsimp only)) | (k_end; wrow_close) | walk1 | (dsimp only; walk1) | (leave1; walk_say "STEP leave1"; try dsimp only) | fail "no step")))
  with_unfolding_all refine' Con.use (con_cmpw how str bw (weightedS how e) (weightedS how e') hA.wlen hA'.wlen hstr) ?k1 ?k2 ?k3 ?k4 ?k5 ?kK ?kP ?kd ?ku ?_
  (((((case k1 => k_asm); (case k2 => k_asm); (case k3 => k_asm); (case k4 => k_asm); (case k5 => k_asm); (case kK => first | exact rfl | assumption))); (case kd => decide); (case ku => decide)))
  case kP => exact ⟨_, _, _, rfl, hf2.at (by assumption) (by (first | (walk_at "MY subB") | (walk_say "OLDSUB"; ((intro p hp; (try simp only [List.mem_cons, List.mem_append, List.cons_append, List.nil_append, List.append_nil, List.not_mem_nil, or_false, false_or, or_assoc] at hp ⊢); first | (simp only [hp, true_or, or_true]; done) | (revert hp; (repeat (first | (with_reducible show (_ ∨ _) → _; refine or_imp.mpr ⟨fun hp => (by simp only [hp, true_or, or_true]), ?_⟩) | fail "no more")); (intro hp; simp only [hp, true_or, or_true]; done))))))), hf2'.at (by assumption) (by (first | (walk_at "MY subB") | (walk_say "OLDSUB"; ((intro p hp; (try simp only [List.mem_cons, List.mem_append, List.cons_append, List.nil_append, List.append_nil, List.not_mem_nil, or_false, false_or, or_assoc] at hp ⊢); first | (simp only [hp, true_or, or_true]; done) | (revert hp; (repeat (first | (with_reducible show (_ ∨ _) → _; refine or_imp.mpr ⟨fun hp => (by simp only [hp, true_or, or_true]), ?_⟩) | fail "no more")); (intro hp; simp only [hp, true_or, or_true]; done))))))), hOpt.at (by assumption) (by assumption) (by (first | (walk_at "MY subB") | (walk_say "OLDSUB"; ((intro p hp; (try simp only [List.mem_cons, List.mem_append, List.cons_append, List.nil_append, List.append_nil, List.not_mem_nil, or_false, false_or, or_assoc] at hp ⊢); first | (simp only [hp, true_or, or_true]; done) | (revert hp; (repeat (first | (with_reducible show (_ ∨ _) → _; refine or_imp.mpr ⟨fun hp => (by simp only [hp, true_or, or_true]), ?_⟩) | fail "no more")); (intro hp; simp only [hp, true_or, or_true]; done)))))))⟩
  intro r5 t5 h5 tk5 F5 N5 of5 P5
  obtain ⟨td5, rfl⟩ := P5
  rw [cmp_all hA hA']
  have N8 := News.sub (b := (K, W.listOf (List.toArray ks) nk) :: (F, W.listOf (List.toArray fs) nf) :: (A, W.listOf (List.toArray as) na) :: (rest ++ own)) N5 (by (first | (walk_at "MY subB") | (walk_say "OLDSUB"; ((intro p hp; (try simp only [List.mem_cons, List.mem_append, List.cons_append, List.nil_append, List.append_nil, List.not_mem_nil, or_false, false_or, or_assoc] at hp ⊢); first | (simp only [hp, true_or, or_true]; done) | (revert hp; (repeat (first | (with_reducible show (_ ∨ _) → _; refine or_imp.mpr ⟨fun hp => (by simp only [hp, true_or, or_true]), ?_⟩) | fail "no more")); (intro hp; simp only [hp, true_or, or_true]; done)))))))
  clear N5 of5
  (repeat' ((fail_if_success (with_reducible show wpAny _ _ (subscriptTail _ _ (Value.ref _) _) _ _ _)); (((fail_if_success (with_reducible show wpAny _ _ (call (Value.builtin "len") _) _ _ _)); (fail_if_success (with_reducible show wpAny _ _ (call (Value.type "list") _) _ _ _)); (fail_if_success (with_reducible show wpAny _ _ (compareOp _ (Value.ref _) _) _ _ _)); (fail_if_success (with_reducible show wpAny _ _ (compareOp _ _ (Value.ref _)) _ _ _)); (fail_if_success (with_reducible show wpAny _ _ (call (Value.type _) (Value.ref _ :: _)) _ _ _)); (fail_if_success (with_reducible show wpAny _ _ (call (Value.builtin _) (Value.ref _ :: _)) _ _ _)); (((fail_if_success (with_reducible show wpAny _ _ (call (Value.ref _) _) _ _ _)); (fail_if_success (with_reducible show wpAny _ _ (exec (Stmt.While _ _ _ _) _) _ _ _)))))); (first | (k_unfold; (try dsimp only)) | (k_end; wrow_close) | walk1 | (dsimp only; walk1) | (leave1; walk_say "STEP leave1"; try dsimp only) | fail "no step")))
  (rename Fr _ _ _ _ => F9); (rename News _ _ _ _ => N9)
  with_unfolding_all refine list_at (us := ks) (isListN N9 (by k_mem)) (at_k hk1) (by omega) (by omega) ?_ (by with_unfolding_all rfl)
  (repeat' ((fail_if_success (with_reducible show wpAny _ _ (subscriptTail _ _ (Value.ref _) _) _ _ _)); (((fail_if_success (with_reducible show wpAny _ _ (call (Value.builtin "len") _) _ _ _)); (fail_if_success (with_reducible show wpAny _ _ (call (Value.type "list") _) _ _ _)); (fail_if_success (with_reducible show wpAny _ _ (compareOp _ (Value.ref _) _) _ _ _)); (fail_if_success (with_reducible show wpAny _ _ (compareOp _ _ (Value.ref _)) _ _ _)); (fail_if_success (with_reducible show wpAny _ _ (call (Value.type _) (Value.ref _ :: _)) _ _ _)); (fail_if_success (with_reducible show wpAny _ _ (call (Value.builtin _) (Value.ref _ :: _)) _ _ _)); (((fail_if_success (with_reducible show wpAny _ _ (call (Value.ref _) _) _ _ _)); (fail_if_success (with_reducible show wpAny _ _ (exec (Stmt.While _ _ _ _) _) _ _ _)))))); (first | (k_unfold; (try dsimp only)) | (k_end; wrow_close) | walk1 | (dsimp only; walk1) | (leave1; walk_say "STEP leave1"; try dsimp only) | fail "no step")))
  with_unfolding_all refine' Con.use (con_oct (keyOf how str bw e) hA.klen (fun x hx => ⟨(hA.kent x hx).1, Int.lt_of_le_of_lt (hA.kent x hx).2 (by decide)⟩)) ?k1 ?k2 ?k3 ?k4 ?k5 ?kK ?kP ?kd ?ku ?_
  (((((case k1 => k_asm); (case k2 => k_asm); (case k3 => k_asm); (case k4 => k_asm); (case k5 => k_asm); (case kK => first | exact rfl | assumption))); (case kd => decide); (case ku => decide)))
  case kP => exact ⟨_, rfl, hk2.rf.at (by assumption) (by (first | (walk_at "MY subB") | (walk_say "OLDSUB"; ((intro p hp; (try simp only [List.mem_cons, List.mem_append, List.cons_append, List.nil_append, List.append_nil, List.not_mem_nil, or_false, false_or, or_assoc] at hp ⊢); first | (simp only [hp, true_or, or_true]; done) | (revert hp; (repeat (first | (with_reducible show (_ ∨ _) → _; refine or_imp.mpr ⟨fun hp => (by simp only [hp, true_or, or_true]), ?_⟩) | fail "no more")); (intro hp; simp only [hp, true_or, or_true]; done)))))))⟩
  intro r6 t6 h6 tk6 F6 N6 of6 P6
  obtain ⟨td6, rfl⟩ := P6
  clear of6
  (repeat' ((fail_if_success (with_reducible show wpAny _ _ (subscriptTail _ _ (Value.ref _) _) _ _ _)); (((fail_if_success (with_reducible show wpAny _ _ (call (Value.builtin "len") _) _ _ _)); (fail_if_success (with_reducible show wpAny _ _ (call (Value.type "list") _) _ _ _)); (fail_if_success (with_reducible show wpAny _ _ (compareOp _ (Value.ref _) _) _ _ _)); (fail_if_success (with_reducible show wpAny _ _ (compareOp _ _ (Value.ref _)) _ _ _)); (fail_if_success (with_reducible show wpAny _ _ (call (Value.type _) (Value.ref _ :: _)) _ _ _)); (fail_if_success (with_reducible show wpAny _ _ (call (Value.builtin _) (Value.ref _ :: _)) _ _ _)); (((fail_if_success (with_reducible show wpAny _ _ (call (Value.ref _) _) _ _ _)); (fail_if_success (with_reducible show wpAny _ _ (exec (Stmt.While _ _ _ _) _) _ _ _)))))); (first | (k_unfold; (try dsimp only)) | (k_end; wrow_close) | walk1 | (dsimp only; walk1) | (leave1; walk_say "STEP leave1"; try dsimp only) | fail "no step")))
  (rename Fr _ _ _ _ => F9); (rename News _ _ _ _ => N9)
  with_unfolding_all refine list_at (us := ks) (isListN N9 (by k_mem)) (at_p hi hl1 hk1') (by omega) (by omega) ?_ (by with_unfolding_all rfl)
  (repeat' ((fail_if_success (with_reducible show wpAny _ _ (subscriptTail _ _ (Value.ref _) _) _ _ _)); (((fail_if_success (with_reducible show wpAny _ _ (call (Value.builtin "len") _) _ _ _)); (fail_if_success (with_reducible show wpAny _ _ (call (Value.type "list") _) _ _ _)); (fail_if_success (with_reducible show wpAny _ _ (compareOp _ (Value.ref _) _) _ _ _)); (fail_if_success (with_reducible show wpAny _ _ (compareOp _ _ (Value.ref _)) _ _ _)); (fail_if_success (with_reducible show wpAny _ _ (call (Value.type _) (Value.ref _ :: _)) _ _ _)); (fail_if_success (with_reducible show wpAny _ _ (call (Value.builtin _) (Value.ref _ :: _)) _ _ _)); (((fail_if_success (with_reducible show wpAny _ _ (call (Value.ref _) _) _ _ _)); (fail_if_success (with_reducible show wpAny _ _ (exec (Stmt.While _ _ _ _) _) _ _ _)))))); (first | (k_unfold; (try dsimp only)) | (k_end; wrow_close) | walk1 | (dsimp only; walk1) | (leave1; walk_say "STEP leave1"; try dsimp only) | fail "no step")))
  with_unfolding_all refine' Con.use (con_oct (keyOf how str bw e') hA'.klen (fun x hx => ⟨(hA'.kent x hx).1, Int.lt_of_le_of_lt (hA'.kent x hx).2 (by decide)⟩)) ?k1 ?k2 ?k3 ?k4 ?k5 ?kK ?kP ?kd ?ku ?_
  (((((case k1 => k_asm); (case k2 => k_asm); (case k3 => k_asm); (case k4 => k_asm); (case k5 => k_asm); (case kK => first | exact rfl | assumption))); (case kd => decide); (case ku => decide)))
  case kP => exact ⟨_, rfl, hk2'.rf.at (by assumption) (by (first | (walk_at "MY subB") | (walk_say "OLDSUB"; ((intro p hp; (try simp only [List.mem_cons, List.mem_append, List.cons_append, List.nil_append, List.append_nil, List.not_mem_nil, or_false, false_or, or_assoc] at hp ⊢); first | (simp only [hp, true_or, or_true]; done) | (revert hp; (repeat (first | (with_reducible show (_ ∨ _) → _; refine or_imp.mpr ⟨fun hp => (by simp only [hp, true_or, or_true]), ?_⟩) | fail "no more")); (intro hp; simp only [hp, true_or, or_true]; done)))))))⟩
  intro r7 t7 h7 tk7 F7 N7 of7 P7
  obtain ⟨td7, rfl⟩ := P7
  clear of7
  (repeat' ((fail_if_success (with_reducible show wpAny _ _ (subscriptTail _ _ (Value.ref _) _) _ _ _)); (((fail_if_success (with_reducible show wpAny _ _ (call (Value.builtin "len") _) _ _ _)); (fail_if_success (with_reducible show wpAny _ _ (call (Value.type "list") _) _ _ _)); (fail_if_success (with_reducible show wpAny _ _ (compareOp _ (Value.ref _) _) _ _ _)); (fail_if_success (with_reducible show wpAny _ _ (compareOp _ _ (Value.ref _)) _ _ _)); (fail_if_success (with_reducible show wpAny _ _ (call (Value.type _) (Value.ref _ :: _)) _ _ _)); (fail_if_success (with_reducible show wpAny _ _ (call (Value.builtin _) (Value.ref _ :: _)) _ _ _)); (((fail_if_success (with_reducible show wpAny _ _ (call (Value.ref _) _) _ _ _)); (fail_if_success (with_reducible show wpAny _ _ (exec (Stmt.While _ _ _ _) _) _ _ _)))))); (first | (k_unfold; (try dsimp only)) | (k_end; wrow_close) | walk1 | (dsimp only; walk1) | (leave1; walk_say "STEP leave1"; try dsimp only) | fail "no step")))
  (rename Fr _ _ _ _ => F9); (rename News _ _ _ _ => N9)
  with_unfolding_all refine ne_same (d := .list [.int (cmpS (keyOf how str bw e) (keyOf how str bw e')), .int (cmpS (keyOf how str bw e) (keyOf how str bw e'))]) (rd_two N9 (by k_mem)) (rd_two N9 (by k_mem)) rfl (show (7 : Nat) + 64 < cLine by decide) ?_
  have N8 := News.sub (b := (K, W.listOf (List.toArray ks) nk) :: (F, W.listOf (List.toArray fs) nf) :: (A, W.listOf (List.toArray as) na) :: (rest ++ own)) N9 (by (first | (walk_at "MY subB") | (walk_say "OLDSUB"; ((intro p hp; (try simp only [List.mem_cons, List.mem_append, List.cons_append, List.nil_append, List.append_nil, List.not_mem_nil, or_false, false_or, or_assoc] at hp ⊢); first | (simp only [hp, true_or, or_true]; done) | (revert hp; (repeat (first | (with_reducible show (_ ∨ _) → _; refine or_imp.mpr ⟨fun hp => (by simp only [hp, true_or, or_true]), ?_⟩) | fail "no more")); (intro hp; simp only [hp, true_or, or_true]; done)))))))
  clear N9
  (repeat' ((fail_if_success (with_reducible show wpAny _ _ (subscriptTail _ _ (Value.ref _) _) _ _ _)); (((fail_if_success (with_reducible show wpAny _ _ (call (Value.builtin "len") _) _ _ _)); (fail_if_success (with_reducible show wpAny _ _ (call (Value.type "list") _) _ _ _)); (fail_if_success (with_reducible show wpAny _ _ (compareOp _ (Value.ref _) _) _ _ _)); (fail_if_success (with_reducible show wpAny _ _ (compareOp _ _ (Value.ref _)) _ _ _)); (fail_if_success (with_reducible show wpAny _ _ (call (Value.type _) (Value.ref _ :: _)) _ _ _)); (fail_if_success (with_reducible show wpAny _ _ (call (Value.builtin _) (Value.ref _ :: _)) _ _ _)); (((fail_if_success (with_reducible show wpAny _ _ (call (Value.ref _) _) _ _ _)); (fail_if_success (with_reducible show wpAny _ _ (exec (Stmt.While _ _ _ _) _) _ _ _)))))); (first | (k_unfold; (try dsimp only)) | (k_end; wrow_close) | walk1 | (dsimp only; walk1) | (leave1; walk_say "STEP leave1"; try dsimp only) | fail "no step")))
  (rename Fr _ _ _ _ => F9); (rename News _ _ _ _ => N9)
  with_unfolding_all refine list_bytes rfl (Nat.le_trans (oct_size hA.klen) (by rw [sizeLine_eq]; decide)) F9 N9 fun h8 tk8 D8 y8 c8 F8 N8 l8 I8 => ?_
  rw [oct_bytes hA.kent] at I8
  clear N9 F9
  (repeat' ((fail_if_success (with_reducible show wpAny _ _ (subscriptTail _ _ (Value.ref _) _) _ _ _)); (((fail_if_success (with_reducible show wpAny _ _ (call (Value.builtin "len") _) _ _ _)); (fail_if_success (with_reducible show wpAny _ _ (call (Value.type "list") _) _ _ _)); (fail_if_success (with_reducible show wpAny _ _ (compareOp _ (Value.ref _) _) _ _ _)); (fail_if_success (with_reducible show wpAny _ _ (compareOp _ _ (Value.ref _)) _ _ _)); (fail_if_success (with_reducible show wpAny _ _ (call (Value.type _) (Value.ref _ :: _)) _ _ _)); (fail_if_success (with_reducible show wpAny _ _ (call (Value.builtin _) (Value.ref _ :: _)) _ _ _)); (((fail_if_success (with_reducible show wpAny _ _ (call (Value.ref _) _) _ _ _)); (fail_if_success (with_reducible show wpAny _ _ (exec (Stmt.While _ _ _ _) _) _ _ _)))))); (first | (k_unfold; (try dsimp only)) | (k_end; wrow_close) | walk1 | (dsimp only; walk1) | (leave1; walk_say "STEP leave1"; try dsimp only) | fail "no step")))
  (rename Fr _ _ _ _ => F9); (rename News _ _ _ _ => N9)
  with_unfolding_all refine list_bytes rfl (Nat.le_trans (oct_size hA'.klen) (by rw [sizeLine_eq]; decide)) F9 N9 fun h9 tk9 D9 y9 c9 F10 N10 l9 I9 => ?_
  rw [oct_bytes hA'.kent] at I9
  clear N9 F9
  (repeat' ((fail_if_success (with_reducible show wpAny _ _ (subscriptTail _ _ (Value.ref _) _) _ _ _)); (((fail_if_success (with_reducible show wpAny _ _ (call (Value.builtin "len") _) _ _ _)); (fail_if_success (with_reducible show wpAny _ _ (call (Value.type "list") _) _ _ _)); (fail_if_success (with_reducible show wpAny _ _ (compareOp _ (Value.ref _) _) _ _ _)); (fail_if_success (with_reducible show wpAny _ _ (compareOp _ _ (Value.ref _)) _ _ _)); (fail_if_success (with_reducible show wpAny _ _ (call (Value.type _) (Value.ref _ :: _)) _ _ _)); (fail_if_success (with_reducible show wpAny _ _ (call (Value.builtin _) (Value.ref _ :: _)) _ _ _)); (((fail_if_success (with_reducible show wpAny _ _ (call (Value.ref _) _) _ _ _)); (fail_if_success (with_reducible show wpAny _ _ (exec (Stmt.While _ _ _ _) _) _ _ _)))))); (first | (k_unfold; (try dsimp only)) | (k_end; wrow_close) | walk1 | (dsimp only; walk1) | (leave1; walk_say "STEP leave1"; try dsimp only) | fail "no step")))
  with_unfolding_all refine' Con.use (con_sign (octS (keyOf how str bw e)) (octS (keyOf how str bw e')) (oct_le hA.klen) (oct_le hA'.klen)) ?k1 ?k2 ?k3 ?k4 ?k5 ?kK ?kP ?kd ?ku ?_
  (((((case k1 => k_asm); (case k2 => k_asm); (case k3 => k_asm); (case k4 => k_asm); (case k5 => k_asm); (case kK => first | exact rfl | assumption))); (case kd => decide); (case ku => decide)))
  case kP => exact ⟨_, _, rfl, rd_ints_in (by assumption) (by k_mem) I8, rd_ints_in (by assumption) (by k_mem) I9⟩
  intro r8 t8 h10 tk10 F11 N11 of11 P11
  obtain ⟨td11, rfl⟩ := P11
  rw [oct_all hA hA']
  have N8 := News.sub (b := (K, W.listOf (List.toArray ks) nk) :: (F, W.listOf (List.toArray fs) nf) :: (A, W.listOf (List.toArray as) na) :: (rest ++ own)) N11 (by (first | (walk_at "MY subB") | (walk_say "OLDSUB"; ((intro p hp; (try simp only [List.mem_cons, List.mem_append, List.cons_append, List.nil_append, List.append_nil, List.not_mem_nil, or_false, false_or, or_assoc] at hp ⊢); first | (simp only [hp, true_or, or_true]; done) | (revert hp; (repeat (first | (with_reducible show (_ ∨ _) → _; refine or_imp.mpr ⟨fun hp => (by simp only [hp, true_or, or_true]), ?_⟩) | fail "no more")); (intro hp; simp only [hp, true_or, or_true]; done)))))))
  clear N11 of11 l8 l9
  obtain ⟨ak, kvs, nk2, rfl, hkm, hkR⟩ := rl_list hk2
  have hkl := hkR.length
  rw [List.length_map] at hkl
  have hkI : IntsAre kvs (keyOf how str bw e) := rfAll_ints N8 (fun p hp => by k_mem) hkR
  (repeat' ((fail_if_success (with_reducible show wpAny _ _ (compareOp _ (Value.int _ _) (Value.int _ _)) _ _ _)); (fail_if_success (with_reducible show wpAny _ _ (subscriptTail _ _ (Value.ref _) _) _ _ _)); (((fail_if_success (with_reducible show wpAny _ _ (call (Value.builtin "len") _) _ _ _)); (fail_if_success (with_reducible show wpAny _ _ (call (Value.type "list") _) _ _ _)); (fail_if_success (with_reducible show wpAny _ _ (compareOp _ (Value.ref _) _) _ _ _)); (fail_if_success (with_reducible show wpAny _ _ (compareOp _ _ (Value.ref _)) _ _ _)); (fail_if_success (with_reducible show wpAny _ _ (call (Value.type _) (Value.ref _ :: _)) _ _ _)); (fail_if_success (with_reducible show wpAny _ _ (call (Value.builtin _) (Value.ref _ :: _)) _ _ _)); (((fail_if_success (with_reducible show wpAny _ _ (call (Value.ref _) _) _ _ _)); (fail_if_success (with_reducible show wpAny _ _ (exec (Stmt.While _ _ _ _) _) _ _ _)))))); (first | (k_unfold; (try dsimp only)) | (k_end; wrow_close) | walk1 | (dsimp only; walk1) | (leave1; walk_say "STEP leave1"; try dsimp only) | fail "no step")))
  with_unfolding_all refine ne_same (d := .int _) ⟨_, .int _ _⟩ ⟨_, .int _ _⟩ rfl (show (7 : Nat) + 64 < cLine by decide) ?_
  (repeat' ((fail_if_success (with_reducible show wpAny _ _ (subscriptTail _ _ (Value.ref _) _) _ _ _)); (((fail_if_success (with_reducible show wpAny _ _ (call (Value.builtin "len") _) _ _ _)); (fail_if_success (with_reducible show wpAny _ _ (call (Value.type "list") _) _ _ _)); (fail_if_success (with_reducible show wpAny _ _ (compareOp _ (Value.ref _) _) _ _ _)); (fail_if_success (with_reducible show wpAny _ _ (compareOp _ _ (Value.ref _)) _ _ _)); (fail_if_success (with_reducible show wpAny _ _ (call (Value.type _) (Value.ref _ :: _)) _ _ _)); (fail_if_success (with_reducible show wpAny _ _ (call (Value.builtin _) (Value.ref _ :: _)) _ _ _)); (((fail_if_success (with_reducible show wpAny _ _ (call (Value.ref _) _) _ _ _)); (fail_if_success (with_reducible show wpAny _ _ (exec (Stmt.While _ _ _ _) _) _ _ _)))))); (first | (k_unfold; (try dsimp only)) | (k_end; wrow_close) | walk1 | (dsimp only; walk1) | (leave1; walk_say "STEP leave1"; try dsimp only) | fail "no step")))
  with_unfolding_all refine KBw.len_K (oct_bytes hA.kent) (by have := oct_le hA.klen; omega) ?_
  (repeat' ((fail_if_success (with_reducible show wpAny _ _ (subscriptTail _ _ (Value.ref _) _) _ _ _)); (((fail_if_success (with_reducible show wpAny _ _ (call (Value.builtin "len") _) _ _ _)); (fail_if_success (with_reducible show wpAny _ _ (call (Value.type "list") _) _ _ _)); (fail_if_success (with_reducible show wpAny _ _ (compareOp _ (Value.ref _) _) _ _ _)); (fail_if_success (with_reducible show wpAny _ _ (compareOp _ _ (Value.ref _)) _ _ _)); (fail_if_success (with_reducible show wpAny _ _ (call (Value.type _) (Value.ref _ :: _)) _ _ _)); (fail_if_success (with_reducible show wpAny _ _ (call (Value.builtin _) (Value.ref _ :: _)) _ _ _)); (((fail_if_success (with_reducible show wpAny _ _ (call (Value.ref _) _) _ _ _)); (fail_if_success (with_reducible show wpAny _ _ (exec (Stmt.While _ _ _ _) _) _ _ _)))))); (first | (k_unfold; (try dsimp only)) | (k_end; wrow_close) | walk1 | (dsimp only; walk1) | (leave1; walk_say "STEP leave1"; try dsimp only) | fail "no step")))
  (rename Fr _ _ _ _ => F9); (rename News _ _ _ _ => N9)
  with_unfolding_all refine list_at (us := ks) (isListN N9 (by k_mem)) (at_k hk1) (by omega) (by omega) ?_ (by with_unfolding_all rfl)
  refine comp_list (fun j => (((keyOf how str bw e).take j).map octN).map .int) rfl F9 N9 (.inr ⟨_, .tail _ (.tail _ (.tail _ (List.mem_append.mpr (.inl hkm)))), rfl, _, rfl⟩) (by rw [hkl, sizeLine_eq]; have := hA.klen; omega) rfl ?_ ?_
  · intro j v ys tl' I' oI C oC D₂ m₂ h tk E' hv hR hC hx F₁ N₁ off ne
    ((try with_reducible show wpAny _ _ _ _ _ _); (try k_fold))
    obtain ⟨x, t, rfl, hx2⟩ := hkI.at j v hv
    have hs1 := map_take_succ octN (keyOf how str bw e) j x hx2
    clear F9 N9 hv
    (try k_fold)
    (repeat' ((((fail_if_success (with_reducible show wpAny _ _ (call (Value.builtin "len") _) _ _ _)); (fail_if_success (with_reducible show wpAny _ _ (call (Value.type "list") _) _ _ _)); (fail_if_success (with_reducible show wpAny _ _ (compareOp _ (Value.ref _) _) _ _ _)); (fail_if_success (with_reducible show wpAny _ _ (compareOp _ _ (Value.ref _)) _ _ _)); (fail_if_success (with_reducible show wpAny _ _ (call (Value.type _) (Value.ref _ :: _)) _ _ _)); (fail_if_success (with_reducible show wpAny _ _ (call (Value.builtin _) (Value.ref _ :: _)) _ _ _)); (((fail_if_success (with_reducible show wpAny _ _ (call (Value.ref _) _) _ _ _)); (fail_if_success (with_reducible show wpAny _ _ (exec (Stmt.While _ _ _ _) _) _ _ _)))))); (first | (k_unfold; (try dsimp only)) | (k_end; wrow_close) | walk1 | (dsimp only; walk1) | (leave1; walk_say "STEP leave1"; try dsimp only) | fail "no step")))
    all_goals (
      (rename Fr _ _ _ _ => F8); (rename News _ _ _ _ => N8)
      refine LCg.CompEnd.intro F8 N8 _ (fun _ h => h) off (.inr ⟨_, List.mem_append.mpr (.inr (.tail _ (.tail _ (.tail _ (List.mem_append.mpr (.inl hkm)))))), rfl, _, rfl⟩) ⟨tl', rfl, ?_⟩
      (try dsimp only)
      rw [hs1, List.map_append, show octN x = _ from rfl]
      unfold octN
      first | rw [if_pos (by assumption)] | rw [if_neg (by assumption)]
      exact hR.append (.cons Rf.int .nil))
  · intro g9 tl' ys hR
    intro D₂ h9 tk9 F9' N9' o9
    rw [show (keyOf how str bw e).take _ = keyOf how str bw e by rw [List.take_of_length_le]; rw [hkl]; exact Nat.le_refl _] at hR
    have hI : IntsAre ys ((keyOf how str bw e).map octN) := rfAll_ints N9' (fun p hp => .tail _ (List.mem_append.mpr (.inl hp))) hR
    clear F9 N9
    (repeat' ((fail_if_success (with_reducible show wpAny _ _ (subscriptTail _ _ (Value.ref _) _) _ _ _)); (((fail_if_success (with_reducible show wpAny _ _ (call (Value.builtin "len") _) _ _ _)); (fail_if_success (with_reducible show wpAny _ _ (call (Value.type "list") _) _ _ _)); (fail_if_success (with_reducible show wpAny _ _ (compareOp _ (Value.ref _) _) _ _ _)); (fail_if_success (with_reducible show wpAny _ _ (compareOp _ _ (Value.ref _)) _ _ _)); (fail_if_success (with_reducible show wpAny _ _ (call (Value.type _) (Value.ref _ :: _)) _ _ _)); (fail_if_success (with_reducible show wpAny _ _ (call (Value.builtin _) (Value.ref _ :: _)) _ _ _)); (((fail_if_success (with_reducible show wpAny _ _ (call (Value.ref _) _) _ _ _)); (fail_if_success (with_reducible show wpAny _ _ (exec (Stmt.While _ _ _ _) _) _ _ _)))))); (first | (k_unfold; (try dsimp only)) | (k_end; wrow_close) | walk1 | (dsimp only; walk1) | (leave1; walk_say "STEP leave1"; try dsimp only) | fail "no step")))
    (rename Fr _ _ _ _ => F8); (rename News _ _ _ _ => N8)
    with_unfolding_all refine LSm.sum_ints F8 N8 rfl (isListN N8 (by k_mem)) hI fun h11 tk11 t11 F12 N12 => ?_
    rw [sum_oct]
    clear F8 N8
    (repeat' ((fail_if_success (with_reducible show wpAny _ _ (compareOp _ (Value.int _ _) (Value.int _ _)) _ _ _)); (fail_if_success (with_reducible show wpAny _ _ (subscriptTail _ _ (Value.ref _) _) _ _ _)); (((fail_if_success (with_reducible show wpAny _ _ (call (Value.builtin "len") _) _ _ _)); (fail_if_success (with_reducible show wpAny _ _ (call (Value.type "list") _) _ _ _)); (fail_if_success (with_reducible show wpAny _ _ (compareOp _ (Value.ref _) _) _ _ _)); (fail_if_success (with_reducible show wpAny _ _ (compareOp _ _ (Value.ref _)) _ _ _)); (fail_if_success (with_reducible show wpAny _ _ (call (Value.type _) (Value.ref _ :: _)) _ _ _)); (fail_if_success (with_reducible show wpAny _ _ (call (Value.builtin _) (Value.ref _ :: _)) _ _ _)); (((fail_if_success (with_reducible show wpAny _ _ (call (Value.ref _) _) _ _ _)); (fail_if_success (with_reducible show wpAny _ _ (exec (Stmt.While _ _ _ _) _) _ _ _)))))); (first | (k_unfold; (try dsimp only)) | (k_end; wrow_close) | walk1 | (dsimp only; walk1) | (leave1; walk_say "STEP leave1"; try dsimp only) | fail "no step")))
    with_unfolding_all refine ne_same (d := .int _) ⟨_, .int _ _⟩ ⟨_, .int _ _⟩ rfl (show (7 : Nat) + 64 < cLine by decide) ?_
    (repeat' ((fail_if_success (with_reducible show wpAny _ _ (subscriptTail _ _ (Value.ref _) _) _ _ _)); (((fail_if_success (with_reducible show wpAny _ _ (call (Value.builtin "len") _) _ _ _)); (fail_if_success (with_reducible show wpAny _ _ (call (Value.type "list") _) _ _ _)); (fail_if_success (with_reducible show wpAny _ _ (compareOp _ (Value.ref _) _) _ _ _)); (fail_if_success (with_reducible show wpAny _ _ (compareOp _ _ (Value.ref _)) _ _ _)); (fail_if_success (with_reducible show wpAny _ _ (call (Value.type _) (Value.ref _ :: _)) _ _ _)); (fail_if_success (with_reducible show wpAny _ _ (call (Value.builtin _) (Value.ref _ :: _)) _ _ _)); (((fail_if_success (with_reducible show wpAny _ _ (call (Value.ref _) _) _ _ _)); (fail_if_success (with_reducible show wpAny _ _ (exec (Stmt.While _ _ _ _) _) _ _ _)))))); (first | (k_unfold; (try dsimp only)) | (k_end; wrow_close) | walk1 | (dsimp only; walk1) | (leave1; walk_say "STEP leave1"; try dsimp only) | fail "no step")))
    (rename Fr _ _ _ _ => F8); (rename News _ _ _ _ => N8)
    with_unfolding_all exact StJ.end [] ((K, W.listOf (List.toArray ks) nk) :: (F, W.listOf (List.toArray fs) nf) :: (A, W.listOf (List.toArray as) na) :: rest) F8 N8 (by (first | (walk_at "MY subB") | (walk_say "OLDSUB"; ((intro p hp; (try simp only [List.mem_cons, List.mem_append, List.cons_append, List.nil_append, List.append_nil, List.not_mem_nil, or_false, false_or, or_assoc] at hp ⊢); first | (simp only [hp, true_or, or_true]; done) | (revert hp; (repeat (first | (with_reducible show (_ ∨ _) → _; refine or_imp.mpr ⟨fun hp => (by simp only [hp, true_or, or_true]), ?_⟩) | fail "no more")); (intro hp; simp only [hp, true_or, or_true]; done))))))) (by (first | (walk_at "MY subB") | (walk_say "OLDSUB"; ((intro p hp; (try simp only [List.mem_cons, List.mem_append, List.cons_append, List.nil_append, List.append_nil, List.not_mem_nil, or_false, false_or, or_assoc] at hp ⊢); first | (simp only [hp, true_or, or_true]; done) | (revert hp; (repeat (first | (with_reducible show (_ ∨ _) → _; refine or_imp.mpr ⟨fun hp => (by simp only [hp, true_or, or_true]), ?_⟩) | fail "no more")); (intro hp; simp only [hp, true_or, or_true]; done))))))) ho ⟨rfl, rfl⟩ (List.forall_mem_nil _) (by (first | (intro z h2 h3; (try dsimp only at h2); (repeat (first | exact skc h3 | (with_reducible exact rfl) | (refine sk (ne_in h3 (by with_reducible first | exact nm_head | exact nm_tail nm_head | exact nm_tail (nm_tail nm_head) | exact nm_tail (nm_tail (nm_tail nm_head)) | exact nm_tail (nm_tail (nm_tail (nm_tail nm_head))) | exact nm_tail (nm_tail (nm_tail (nm_tail (nm_tail nm_head)))) | exact nm_tail (nm_tail (nm_tail (nm_tail (nm_tail (nm_tail nm_head))))) | exact nm_tail (nm_tail (nm_tail (nm_tail (nm_tail (nm_tail (nm_tail nm_head)))))) | exact nm_tail (nm_tail (nm_tail (nm_tail (nm_tail (nm_tail (nm_tail (nm_tail nm_head))))))))) ?_) | (refine sk (ne_h h2) ?_) | (refine sk (ne_h (ne_t h2)) ?_) | (refine sk (ne_h (ne_t (ne_t h2))) ?_) | fail "no name")); done) | (walk_say "OLDSAME"; (((try dsimp +zetaDelta only); intro z h2 h3; (try simp only [List.forall_mem_cons, List.not_mem_nil, false_implies, implies_true, and_true, ne_eq] at h2); (have h4 := h3); (simp only [List.contains_cons, List.contains_nil, Bool.or_false, Bool.or_eq_false_iff, beq_eq_false_iff_ne, ne_eq] at h3); ((simp only [kstB, h2, h3, h4, if_false, Bool.false_eq_true]) <;> rfl))))))
end

section
theorem top_off_L8 : True := by
  w_top off
  exact trivial
theorem rd_one {g h : Heap} {L a : Addr} {news tl : List (Addr × Obj)} {x : Value} {d : PyData} {n : Nat} (N : News g L h news) (hm : (a, listOf #[x] n) ∈ news) (r : Rf tl x d) (hs : ∀ p ∈ tl, p ∈ news) : Rd h (.ref a) (.list [d]) :=
  Rf.at (tl := (a, listOf #[x] n) :: tl) (Rf.list (.head _) (.cons (r.mono fun p hp => .tail _ hp) .nil)) N (fun p hp => (List.mem_cons.mp hp).elim (fun e => e ▸ hm) (hs p))
theorem rd_none {g h : Heap} {L a : Addr} {news : List (Addr × Obj)} {n : Nat} (N : News g L h news) (hm : (a, listOf #[] n) ∈ news) : Rd h (.ref a) (.list []) :=
  Rf.at (tl := [(a, listOf #[] n)]) (Rf.list (.head _) .nil) N (fun p hp => by rw [List.mem_singleton.mp hp]; exact hm)
theorem len3 {α : Type} {l : List α} (h : l.length = 3) : ∃ a b c, l = [a, b, c] := by
  match l, h with
  | [a, b, c], _ => exact ⟨a, b, c, rfl⟩
theorem split_all {how : How} {str : Int} {bw : Bool} : ∀ {ess : List (List Elem)}, (∀ es ∈ ess, LevAll how str bw es) → (ess.map (keyOf how str bw)).map splitS = ess.map (levOf how str bw)
  | [], _ => rfl
  | e :: ess, h => by
    rw [List.map_cons, List.map_cons, List.map_cons, (h e (.head _)).split, split_all fun x hx => h x (.tail _ hx)]
theorem keys_all {how : How} {str : Int} {bw : Bool} {ess : List (List Elem)} (h : ∀ es ∈ ess, LevAll how str bw es) : ∀ k ∈ ess.map (keyOf how str bw), k.length ≤ 1000 ∧ (splitS k).length = str.toNat ∧ ∀ l ∈ splitS k, l.length ≤ 100 := fun k hk => by
  obtain ⟨e, he, rfl⟩ := List.mem_map.mp hk
  have a := h e he
  rw [a.split]
  exact ⟨a.klen, a.num, a.len⟩
theorem merged_self {how : How} {str : Int} {bw : Bool} {e : List Elem} (a : LevAll how str bw e) : mergedN ([keyOf how str bw e].map splitS) str.toNat = keyOf how str bw e := by
  rw [List.map_cons, List.map_nil, a.split, ← a.num, merged_one _ _ (Nat.le_refl _), List.take_length]; rfl
theorem rls3 {tl : List (Addr × Obj)} {vs : List Value} {a b c : List Int} (h : RLs tl vs [a, b, c]) : ∃ x y z, vs = [x, y, z] ∧ RL tl x (a.map .int) ∧ RL tl y (b.map .int) ∧ RL tl z (c.map .int) := by
  cases h with | cons h1 h => cases h with | cons h2 h => cases h with | cons h3 h => cases h with | nil => exact ⟨_, _, _, rfl, h1, h2, h3⟩
theorem rfa3 {tl : List (Addr × Obj)} {vs : List Value} {a b c : PyData} (h : RfAll tl vs [a, b, c]) : ∃ x y z, vs = [x, y, z] ∧ Rf tl x a ∧ Rf tl y b ∧ Rf tl z c := by
  cases h with | cons h1 h => cases h with | cons h2 h => cases h with | cons h3 h => cases h with | nil => exact ⟨_, _, _, rfl, h1, h2, h3⟩
set_option maxHeartbeats 16000000 in
noncomputable def SL8 : { P : Prop // PLift P → SL6.1.2 } := by
  w_top off
  refine ⟨?P, fun hNext0 => ?_⟩
  rotate_left
  · intro law1y0 law1y1 law1y2 law1y3 law1y4 law1y5 law1y6 law1y7 law1y8 law1y9 law1y10 law1y11 law1y12 law1y13 KX law1y14 law1y15 law1y16 law1y17
      law1y18 law1y19 law1y20 law1y21 law1y22 law1y23 law1y24 law1y25 law1y26 law1y27 hSc law1y28 hlen63 law1y29 law1y30 law1y31 law1y32 law1y33 law1y34
      law1y35 law1y36 law1y37 law1y38 law1y39 sc hsc hS14 law1y40 law1y41 hS14l hscl law1y42 law6dy0 law1y43 law1y44 law1y45 law1y46 cs hcs hcr hcl hI
      hyl law1y47 law1y48 law1y49 law1y50 law1y51 law1y52 law1y53 law1y54 law1y55 law1y56 law1y57 wh law3dy0 law3dy1 law1y58 law1y59 how th law1y60
      law1y61 law1y62 law1y63 law1y64 law1y65 law1y66 law1y67 law1y68 law1y69 law1y70 law1y71 law1y72 law1y73 law1y74 law1y75 law1y76 law1y77 law1y78
      law1y79 law1y80 lifted qk ek tk5 law1y81 law1y82 law1y83 law1y84 law1y85 law1y86 law1y87 law1y88 law1y89 law1y90 law1y91 law1y92 law1y93 law1y94
      law1y95 law1y96 str hstr bw law1y97 tlO c1 law1y98 law1y99 law1y100 tlE ys D₂ law1y101 law1y102 law1y103 law1y104 law1y105 law1y106 c2 law1y107
      law1y108 g9 tlE2 ys2 hR D₃ law1y109 law1y110 law1y112 law1y113 law1y114 tlW h9 tk9 aW law1y115 law1y116 law1y118 h8 n8 tlR ess vsR hGood hEl
      law2gy1 law2gy4 law2gy7 law2gy9 law2gy10 law2gy12 law2gy13 law2gy14 law2gy16 law2gy17 law2gy19 law2gy20 A F K R law1y117 law2gy15 law2gy18 law2gy2
      law2gy5 law2gy8 law2gy11 law2gy21 hKF hKA hFA law6dy1 law6dy2 law6dy3 ks fs as nk nf na tl law6dy4 ho law6dy5 law6dy6 law6dy7 law6dy8 hvl rest
      law6dy9 hRk hRf hRa hRw hOpt hCs2 hRm hsep hl1 hl2 hl3 law6dy10 law6dy11 law6dy12 law6dy13 law6dy14 law6dy15 u h tk F₁ N₁
    (have hhX := KX); revert hhX; k_fill; intro hhX; clear hhX
    ((try with_reducible show wpAny _ _ _ _ _ _); (try k_fold))
    change Fr _ _ h _ at F₁; change News _ _ h _ at N₁
    have hAll : ∀ es ∈ ess, LevAll how str bw es := fun es hes => lev_all how str bw es hstr (hGood es hes)
    have hnS : str.toNat ≤ 4 := by omega
    have hkA := keys_all hAll
    have hsA := split_all hAll
    have hkn : (ess.map (keyOf how str bw)).length = 3 := by rw [List.length_map]; exact hEl
    have hKd : Rf ((K, W.listOf (List.toArray ks) nk) :: rest) (.ref K) (.list ((ess.map (keyOf how str bw)).map lP)) := Rf.list (.head _) (hRk.rf.mono fun p hp => .tail _ hp)
    have hAd : Rf ((A, W.listOf (List.toArray as) na) :: rest) (.ref A) (.list ((ess.map (levOf how str bw)).map llP)) := Rf.list (.head _) (by rw [List.map_map]; exact hRa.mono fun p hp => .tail _ hp)
    (with_reducible show wpAny _ _ _ _ _ _); (try k_fold)
    (repeat' ((fail_if_success (with_reducible show wpAny _ _ (subscriptTail _ _ (Value.ref _) _) _ _ _)); (((fail_if_success (with_reducible show wpAny _ _ (call (Value.builtin "len") _) _ _ _)); (fail_if_success (with_reducible show wpAny _ _ (call (Value.type "list") _) _ _ _)); (fail_if_success (with_reducible show wpAny _ _ (compareOp _ (Value.ref _) _) _ _ _)); (fail_if_success (with_reducible show wpAny _ _ (compareOp _ _ (Value.ref _)) _ _ _)); (fail_if_success (with_reducible show wpAny _ _ (call (Value.type _) (Value.ref _ :: _)) _ _ _)); (fail_if_success (with_reducible show wpAny _ _ (call (Value.builtin _) (Value.ref _ :: _)) _ _ _)); (((fail_if_success (with_reducible show wpAny _ _ (call (Value.ref _) _) _ _ _)); (fail_if_success (with_reducible show wpAny _ _ (exec (Stmt.While _ _ _ _) _) _ _ _)))))); (first | (k_unfold; (try dsimp only)) | (k_end; wrow_close) | walk1 | (dsimp only; walk1) | (leave1; walk_say "STEP leave1"; try dsimp only) | fail "no step")))
    with_unfolding_all refine' Con.use (con_merged (ess.map (keyOf how str bw)) str.toNat (by omega) hnS hkA (fun e => by rw [e] at hkn; cases hkn)) ?k1 ?k2 ?k3 ?k4 ?k5 ?kK ?kP ?kd ?ku ?_
    (((((case k1 => k_asm); (case k2 => k_asm); (case k3 => k_asm); (case k4 => k_asm); (case k5 => k_asm); (case kK => first | exact rfl | assumption))); (case kd => decide); (case ku => decide)))
    case kP => exact ⟨_, rfl, hKd.at (by assumption) (by (first | (walk_at "MY subB") | (walk_say "OLDSUB"; ((intro p hp; (try simp only [List.mem_cons, List.mem_append, List.cons_append, List.nil_append, List.append_nil, List.not_mem_nil, or_false, false_or, or_assoc] at hp ⊢); first | (simp only [hp, true_or, or_true]; done) | (revert hp; (repeat (first | (with_reducible show (_ ∨ _) → _; refine or_imp.mpr ⟨fun hp => (by simp only [hp, true_or, or_true]), ?_⟩) | fail "no more")); (intro hp; simp only [hp, true_or, or_true]; done)))))))⟩
    intro r1 t1 h1 tk1 F1 N1 of1 P1
    rw [hsA] at P1
    obtain ⟨a1, v1, n1, rfl, hm1, hR1⟩ := rl_list P1
    clear of1
    have hv1 := hR1.length
    rw [List.length_map] at hv1
    have hml := merged_len (ess.map (levOf how str bw)) (fun L hL => by obtain ⟨e, he, rfl⟩ := List.mem_map.mp hL; exact (hAll e he).len) str.toNat
    have hml2 : (1 + 101 * (ess.map (levOf how str bw)).length) * str.toNat ≤ 304 * 4 := Nat.mul_le_mul (by rw [List.length_map, hEl]; decide) hnS
    (repeat' ((fail_if_success (with_reducible show wpAny _ _ (subscriptTail _ _ (Value.ref _) _) _ _ _)); (((fail_if_success (with_reducible show wpAny _ _ (call (Value.builtin "len") _) _ _ _)); (fail_if_success (with_reducible show wpAny _ _ (call (Value.type "list") _) _ _ _)); (fail_if_success (with_reducible show wpAny _ _ (compareOp _ (Value.ref _) _) _ _ _)); (fail_if_success (with_reducible show wpAny _ _ (compareOp _ _ (Value.ref _)) _ _ _)); (fail_if_success (with_reducible show wpAny _ _ (call (Value.type _) (Value.ref _ :: _)) _ _ _)); (fail_if_success (with_reducible show wpAny _ _ (call (Value.builtin _) (Value.ref _ :: _)) _ _ _)); (((fail_if_success (with_reducible show wpAny _ _ (call (Value.ref _) _) _ _ _)); (fail_if_success (with_reducible show wpAny _ _ (exec (Stmt.While _ _ _ _) _) _ _ _)))))); (first | (k_unfold; (try dsimp only)) | (k_end; wrow_close) | walk1 | (dsimp only; walk1) | (leave1; walk_say "STEP leave1"; try dsimp only) | fail "no step")))
    (rename Fr _ _ _ _ => F9); (rename News _ _ _ _ => N9)
    with_unfolding_all refine list_copyK F9 N9 (isListN N9 (List.mem_append.mpr (.inr hm1))) (fun D2 c2 h2 F2 N2 l2 => ?_) (by rw [List.size_toArray, hv1]; first | exact fit100 (by assumption) | exact fit1000 (by assumption) | exact fit500 (by assumption) | (rw [sizeLine_eq]; omega))
    have P2 : Rf ((D2, W.listOf (List.toArray v1) c2) :: t1) (.ref D2) (lP (mergedN (List.map (levOf how str bw) ess) str.toNat)) := Rf.list (.head _) (hR1.mono fun p hp => .tail _ hp)
    clear N9 F9 l2
    (repeat' ((fail_if_success (with_reducible show wpAny _ _ (subscriptTail _ _ (Value.ref _) _) _ _ _)); (((fail_if_success (with_reducible show wpAny _ _ (call (Value.builtin "len") _) _ _ _)); (fail_if_success (with_reducible show wpAny _ _ (call (Value.type "list") _) _ _ _)); (fail_if_success (with_reducible show wpAny _ _ (compareOp _ (Value.ref _) _) _ _ _)); (fail_if_success (with_reducible show wpAny _ _ (compareOp _ _ (Value.ref _)) _ _ _)); (fail_if_success (with_reducible show wpAny _ _ (call (Value.type _) (Value.ref _ :: _)) _ _ _)); (fail_if_success (with_reducible show wpAny _ _ (call (Value.builtin _) (Value.ref _ :: _)) _ _ _)); (((fail_if_success (with_reducible show wpAny _ _ (call (Value.ref _) _) _ _ _)); (fail_if_success (with_reducible show wpAny _ _ (exec (Stmt.While _ _ _ _) _) _ _ _)))))); (first | (k_unfold; (try dsimp only)) | (k_end; wrow_close) | walk1 | (dsimp only; walk1) | (leave1; walk_say "STEP leave1"; try dsimp only) | fail "no step")))
    with_unfolding_all refine' Con.use (con_lmerged (ess.map (levOf how str bw)) str.toNat (by rw [List.length_map, hEl]; decide) hnS (fun L hL => by obtain ⟨e, he, rfl⟩ := List.mem_map.mp hL; exact ⟨(hAll e he).num, (hAll e he).len⟩)) ?k1 ?k2 ?k3 ?k4 ?k5 ?kK ?kP ?kd ?ku ?_
    (((((case k1 => k_asm); (case k2 => k_asm); (case k3 => k_asm); (case k4 => k_asm); (case k5 => k_asm); (case kK => first | exact rfl | assumption))); (case kd => decide); (case ku => decide)))
    case kP => exact ⟨_, rfl, hAd.at (by assumption) (by (first | (walk_at "MY subB") | (walk_say "OLDSUB"; ((intro p hp; (try simp only [List.mem_cons, List.mem_append, List.cons_append, List.nil_append, List.append_nil, List.not_mem_nil, or_false, false_or, or_assoc] at hp ⊢); first | (simp only [hp, true_or, or_true]; done) | (revert hp; (repeat (first | (with_reducible show (_ ∨ _) → _; refine or_imp.mpr ⟨fun hp => (by simp only [hp, true_or, or_true]), ?_⟩) | fail "no more")); (intro hp; simp only [hp, true_or, or_true]; done)))))))⟩
    intro r3 t3 h3 tk3 F3 N3 of3 P3
    clear of3
    (repeat' ((fail_if_success (with_reducible show wpAny _ _ (subscriptTail _ _ (Value.ref _) _) _ _ _)); (((fail_if_success (with_reducible show wpAny _ _ (call (Value.builtin "len") _) _ _ _)); (fail_if_success (with_reducible show wpAny _ _ (call (Value.type "list") _) _ _ _)); (fail_if_success (with_reducible show wpAny _ _ (compareOp _ (Value.ref _) _) _ _ _)); (fail_if_success (with_reducible show wpAny _ _ (compareOp _ _ (Value.ref _)) _ _ _)); (fail_if_success (with_reducible show wpAny _ _ (call (Value.type _) (Value.ref _ :: _)) _ _ _)); (fail_if_success (with_reducible show wpAny _ _ (call (Value.builtin _) (Value.ref _ :: _)) _ _ _)); (((fail_if_success (with_reducible show wpAny _ _ (call (Value.ref _) _) _ _ _)); (fail_if_success (with_reducible show wpAny _ _ (exec (Stmt.While _ _ _ _) _) _ _ _)))))); (first | (k_unfold; (try dsimp only)) | (k_end; wrow_close) | walk1 | (dsimp only; walk1) | (leave1; walk_say "STEP leave1"; try dsimp only) | fail "no step")))
    with_unfolding_all refine ne_same (P2.at (by assumption) (by (first | (walk_at "MY subB") | (walk_say "OLDSUB"; ((intro p hp; (try simp only [List.mem_cons, List.mem_append, List.cons_append, List.nil_append, List.append_nil, List.not_mem_nil, or_false, false_or, or_assoc] at hp ⊢); first | (simp only [hp, true_or, or_true]; done) | (revert hp; (repeat (first | (with_reducible show (_ ∨ _) → _; refine or_imp.mpr ⟨fun hp => (by simp only [hp, true_or, or_true]), ?_⟩) | fail "no more")); (intro hp; simp only [hp, true_or, or_true]; done)))))))) (P3.at (by assumption) (by (first | (walk_at "MY subB") | (walk_say "OLDSUB"; ((intro p hp; (try simp only [List.mem_cons, List.mem_append, List.cons_append, List.nil_append, List.append_nil, List.not_mem_nil, or_false, false_or, or_assoc] at hp ⊢); first | (simp only [hp, true_or, or_true]; done) | (revert hp; (repeat (first | (with_reducible show (_ ∨ _) → _; refine or_imp.mpr ⟨fun hp => (by simp only [hp, true_or, or_true]), ?_⟩) | fail "no more")); (intro hp; simp only [hp, true_or, or_true]; done)))))))) (shaped_lP _) (show (7 : Nat) + 64 < cLine by decide) ?_
    have N8 := News.sub (b := (K, W.listOf (List.toArray ks) nk) :: (F, W.listOf (List.toArray fs) nf) :: rest) N3 (by (first | (walk_at "MY subB") | (walk_say "OLDSUB"; ((intro p hp; (try simp only [List.mem_cons, List.mem_append, List.cons_append, List.nil_append, List.append_nil, List.not_mem_nil, or_false, false_or, or_assoc] at hp ⊢); first | (simp only [hp, true_or, or_true]; done) | (revert hp; (repeat (first | (with_reducible show (_ ∨ _) → _; refine or_imp.mpr ⟨fun hp => (by simp only [hp, true_or, or_true]), ?_⟩) | fail "no more")); (intro hp; simp only [hp, true_or, or_true]; done)))))))
    clear N3 P2 P3 hAd hKd
    obtain ⟨e0, e1, e2, hE⟩ := len3 hEl
    have hA0 := hAll e0 (by rw [hE]; exact .head _)
    rw [hE] at hRk hRf hRw
    obtain ⟨k0, k1, k2, rfl, hk0, hk1, hk2⟩ := rls3 hRk
    obtain ⟨f0, f1, f2, rfl, hf0, hf1, hf2⟩ := rfa3 hRf
    obtain ⟨w0, w1, w2, rfl, hw0, hw1, hw2⟩ := rfa3 hRw
    obtain ⟨a0, v0, n0, rfl, hm0, hR0⟩ := rl_list hk0
    obtain ⟨a1', v1', n1', rfl, hm1', _⟩ := rl_list hk1
    obtain ⟨a2, v2, n2, rfl, hm2, _⟩ := rl_list hk2
    (repeat' ((((fail_if_success (with_reducible show wpAny _ _ (call (Value.builtin "len") _) _ _ _)); (fail_if_success (with_reducible show wpAny _ _ (call (Value.type "list") _) _ _ _)); (fail_if_success (with_reducible show wpAny _ _ (compareOp _ (Value.ref _) _) _ _ _)); (fail_if_success (with_reducible show wpAny _ _ (compareOp _ _ (Value.ref _)) _ _ _)); (fail_if_success (with_reducible show wpAny _ _ (call (Value.type _) (Value.ref _ :: _)) _ _ _)); (fail_if_success (with_reducible show wpAny _ _ (call (Value.builtin _) (Value.ref _ :: _)) _ _ _)); (((fail_if_success (with_reducible show wpAny _ _ (call (Value.ref _) _) _ _ _)); (fail_if_success (with_reducible show wpAny _ _ (exec (Stmt.While _ _ _ _) _) _ _ _)))))); (first | (k_unfold; (try dsimp only)) | (k_end; wrow_close) | walk1 | (dsimp only; walk1) | (leave1; walk_say "STEP leave1"; try dsimp only) | fail "no step")))
    with_unfolding_all refine' Con.use (con_merged [keyOf how str bw e0] str.toNat (Nat.le_of_ble_eq_true rfl) hnS (fun k hk => hkA k (by rw [hE]; exact (List.mem_singleton.mp hk) ▸ .head _)) (fun e => nomatch e)) ?k1 ?k2 ?k3 ?k4 ?k5 ?kK ?kP ?kd ?ku ?_
    (((((case k1 => k_asm); (case k2 => k_asm); (case k3 => k_asm); (case k4 => k_asm); (case k5 => k_asm); (case kK => first | exact rfl | assumption))); (case kd => decide); (case ku => decide)))
    case kP => exact ⟨_, rfl, rd_one (by assumption) (by k_mem) hk0.rf (by (first | (walk_at "MY subB") | (walk_say "OLDSUB"; ((intro p hp; (try simp only [List.mem_cons, List.mem_append, List.cons_append, List.nil_append, List.append_nil, List.not_mem_nil, or_false, false_or, or_assoc] at hp ⊢); first | (simp only [hp, true_or, or_true]; done) | (revert hp; (repeat (first | (with_reducible show (_ ∨ _) → _; refine or_imp.mpr ⟨fun hp => (by simp only [hp, true_or, or_true]), ?_⟩) | fail "no more")); (intro hp; simp only [hp, true_or, or_true]; done)))))))⟩
    intro r4 t4 h4 tk4 F4 N4 of4 P4
    rw [merged_self hA0] at P4
    obtain ⟨a4, v4, n4, rfl, hm4, hR4⟩ := rl_list P4
    have hv4 := hR4.length
    rw [List.length_map] at hv4
    have hv0 := hR0.length
    rw [List.length_map] at hv0
    have N8 := News.sub (b := (K, W.listOf #[Value.ref a0, Value.ref a1', Value.ref a2] nk) :: (F, W.listOf #[f0, f1, f2] nf) :: (rest ++ t4)) N4 (by (first | (walk_at "MY subB") | (walk_say "OLDSUB"; ((intro p hp; (try simp only [List.mem_cons, List.mem_append, List.cons_append, List.nil_append, List.append_nil, List.not_mem_nil, or_false, false_or, or_assoc] at hp ⊢); first | (simp only [hp, true_or, or_true]; done) | (revert hp; (repeat (first | (with_reducible show (_ ∨ _) → _; refine or_imp.mpr ⟨fun hp => (by simp only [hp, true_or, or_true]), ?_⟩) | fail "no more")); (intro hp; simp only [hp, true_or, or_true]; done)))))))
    clear N4 of4
    (repeat' ((((fail_if_success (with_reducible show wpAny _ _ (call (Value.builtin "len") _) _ _ _)); (fail_if_success (with_reducible show wpAny _ _ (call (Value.type "list") _) _ _ _)); (fail_if_success (with_reducible show wpAny _ _ (compareOp _ (Value.ref _) _) _ _ _)); (fail_if_success (with_reducible show wpAny _ _ (compareOp _ _ (Value.ref _)) _ _ _)); (fail_if_success (with_reducible show wpAny _ _ (call (Value.type _) (Value.ref _ :: _)) _ _ _)); (fail_if_success (with_reducible show wpAny _ _ (call (Value.builtin _) (Value.ref _ :: _)) _ _ _)); (((fail_if_success (with_reducible show wpAny _ _ (call (Value.ref _) _) _ _ _)); (fail_if_success (with_reducible show wpAny _ _ (exec (Stmt.While _ _ _ _) _) _ _ _)))))); (first | (k_unfold; (try dsimp only)) | (k_end; wrow_close) | walk1 | (dsimp only; walk1) | (leave1; walk_say "STEP leave1"; try dsimp only) | fail "no step")))
    (rename Fr _ _ _ _ => F9); (rename News _ _ _ _ => N9)
    with_unfolding_all refine list_copyK F9 N9 (isListN N9 (show (a4, W.listOf (List.toArray v4) n4) ∈ _ by k_mem)) (fun D5 c5 h5 F5 N5 l5 => ?_) (by rw [List.size_toArray, hv4, sizeLine_eq]; have := hA0.klen; omega)
    clear N9 F9 l5
    (repeat' ((((fail_if_success (with_reducible show wpAny _ _ (call (Value.builtin "len") _) _ _ _)); (fail_if_success (with_reducible show wpAny _ _ (call (Value.type "list") _) _ _ _)); (fail_if_success (with_reducible show wpAny _ _ (compareOp _ (Value.ref _) _) _ _ _)); (fail_if_success (with_reducible show wpAny _ _ (compareOp _ _ (Value.ref _)) _ _ _)); (fail_if_success (with_reducible show wpAny _ _ (call (Value.type _) (Value.ref _ :: _)) _ _ _)); (fail_if_success (with_reducible show wpAny _ _ (call (Value.builtin _) (Value.ref _ :: _)) _ _ _)); (((fail_if_success (with_reducible show wpAny _ _ (call (Value.ref _) _) _ _ _)); (fail_if_success (with_reducible show wpAny _ _ (exec (Stmt.While _ _ _ _) _) _ _ _)))))); (first | (k_unfold; (try dsimp only)) | (k_end; wrow_close) | walk1 | (dsimp only; walk1) | (leave1; walk_say "STEP leave1"; try dsimp only) | fail "no step")))
    (rename Fr _ _ _ _ => F9); (rename News _ _ _ _ => N9)
    with_unfolding_all refine list_copyK F9 N9 (isListN N9 (show (a0, W.listOf (List.toArray v0) n0) ∈ _ by k_mem)) (fun D6 c6 h6 F6 N6 l6 => ?_) (by rw [List.size_toArray, hv0, sizeLine_eq]; have := hA0.klen; omega)
    clear N9 F9 l6
    (repeat' ((((fail_if_success (with_reducible show wpAny _ _ (call (Value.builtin "len") _) _ _ _)); (fail_if_success (with_reducible show wpAny _ _ (call (Value.type "list") _) _ _ _)); (fail_if_success (with_reducible show wpAny _ _ (compareOp _ (Value.ref _) _) _ _ _)); (fail_if_success (with_reducible show wpAny _ _ (compareOp _ _ (Value.ref _)) _ _ _)); (fail_if_success (with_reducible show wpAny _ _ (call (Value.type _) (Value.ref _ :: _)) _ _ _)); (fail_if_success (with_reducible show wpAny _ _ (call (Value.builtin _) (Value.ref _ :: _)) _ _ _)); (((fail_if_success (with_reducible show wpAny _ _ (call (Value.ref _) _) _ _ _)); (fail_if_success (with_reducible show wpAny _ _ (exec (Stmt.While _ _ _ _) _) _ _ _)))))); (first | (k_unfold; (try dsimp only)) | (k_end; wrow_close) | walk1 | (dsimp only; walk1) | (leave1; walk_say "STEP leave1"; try dsimp only) | fail "no step")))
    (rename Fr _ _ _ _ => F9); (rename News _ _ _ _ => N9)
    have I4 : IntsAre v4 (keyOf how str bw e0) := rfAll_ints N9 (by (first | (walk_at "MY subB") | (walk_say "OLDSUB"; ((intro p hp; (try simp only [List.mem_cons, List.mem_append, List.cons_append, List.nil_append, List.append_nil, List.not_mem_nil, or_false, false_or, or_assoc] at hp ⊢); first | (simp only [hp, true_or, or_true]; done) | (revert hp; (repeat (first | (with_reducible show (_ ∨ _) → _; refine or_imp.mpr ⟨fun hp => (by simp only [hp, true_or, or_true]), ?_⟩) | fail "no more")); (intro hp; simp only [hp, true_or, or_true]; done))))))) hR4
    have I0 : IntsAre v0 (keyOf how str bw e0) := rfAll_ints N9 (by (first | (walk_at "MY subB") | (walk_say "OLDSUB"; ((intro p hp; (try simp only [List.mem_cons, List.mem_append, List.cons_append, List.nil_append, List.append_nil, List.not_mem_nil, or_false, false_or, or_assoc] at hp ⊢); first | (simp only [hp, true_or, or_true]; done) | (revert hp; (repeat (first | (with_reducible show (_ ∨ _) → _; refine or_imp.mpr ⟨fun hp => (by simp only [hp, true_or, or_true]), ?_⟩) | fail "no more")); (intro hp; simp only [hp, true_or, or_true]; done))))))) hR0
    with_unfolding_all refine ne_same (rd_ints_in N9 (show (D5, W.listOf (List.toArray v4) c5) ∈ _ by k_mem) I4) (rd_ints_in N9 (show (D6, W.listOf (List.toArray v0) c6) ∈ _ by k_mem) I0) (shaped_lP _) (show (7 : Nat) + 64 < cLine by decide) ?_
    have N8 := News.sub (b := (K, W.listOf #[Value.ref a0, Value.ref a1', Value.ref a2] nk) :: (F, W.listOf #[f0, f1, f2] nf) :: rest) N9 (by (first | (walk_at "MY subB") | (walk_say "OLDSUB"; ((intro p hp; (try simp only [List.mem_cons, List.mem_append, List.cons_append, List.nil_append, List.append_nil, List.not_mem_nil, or_false, false_or, or_assoc] at hp ⊢); first | (simp only [hp, true_or, or_true]; done) | (revert hp; (repeat (first | (with_reducible show (_ ∨ _) → _; refine or_imp.mpr ⟨fun hp => (by simp only [hp, true_or, or_true]), ?_⟩) | fail "no more")); (intro hp; simp only [hp, true_or, or_true]; done)))))))
    clear N9
    (repeat' ((((fail_if_success (with_reducible show wpAny _ _ (call (Value.builtin "len") _) _ _ _)); (fail_if_success (with_reducible show wpAny _ _ (call (Value.type "list") _) _ _ _)); (fail_if_success (with_reducible show wpAny _ _ (compareOp _ (Value.ref _) _) _ _ _)); (fail_if_success (with_reducible show wpAny _ _ (compareOp _ _ (Value.ref _)) _ _ _)); (fail_if_success (with_reducible show wpAny _ _ (call (Value.type _) (Value.ref _ :: _)) _ _ _)); (fail_if_success (with_reducible show wpAny _ _ (call (Value.builtin _) (Value.ref _ :: _)) _ _ _)); (((fail_if_success (with_reducible show wpAny _ _ (call (Value.ref _) _) _ _ _)); (fail_if_success (with_reducible show wpAny _ _ (exec (Stmt.While _ _ _ _) _) _ _ _)))))); (first | (k_unfold; (try dsimp only)) | (k_end; wrow_close) | walk1 | (dsimp only; walk1) | (leave1; walk_say "STEP leave1"; try dsimp only) | fail "no step")))
    with_unfolding_all refine' Con.use (con_merged [] 0 (by decide) (by decide) (fun k hk => nomatch hk) (fun _ => rfl)) ?k1 ?k2 ?k3 ?k4 ?k5 ?kK ?kP ?kd ?ku ?_
    (((((case k1 => k_asm); (case k2 => k_asm); (case k3 => k_asm); (case k4 => k_asm); (case k5 => k_asm); (case kK => first | exact rfl | assumption))); (case kd => decide); (case ku => decide)))
    case kP => exact ⟨_, rfl, rd_none (by assumption) (by k_mem)⟩
    intro r7 t7 h7 tk7 F7 N7 of7 P7
    clear of7
    (repeat' ((((fail_if_success (with_reducible show wpAny _ _ (call (Value.builtin "len") _) _ _ _)); (fail_if_success (with_reducible show wpAny _ _ (call (Value.type "list") _) _ _ _)); (fail_if_success (with_reducible show wpAny _ _ (compareOp _ (Value.ref _) _) _ _ _)); (fail_if_success (with_reducible show wpAny _ _ (compareOp _ _ (Value.ref _)) _ _ _)); (fail_if_success (with_reducible show wpAny _ _ (call (Value.type _) (Value.ref _ :: _)) _ _ _)); (fail_if_success (with_reducible show wpAny _ _ (call (Value.builtin _) (Value.ref _ :: _)) _ _ _)); (((fail_if_success (with_reducible show wpAny _ _ (call (Value.ref _) _) _ _ _)); (fail_if_success (with_reducible show wpAny _ _ (exec (Stmt.While _ _ _ _) _) _ _ _)))))); (first | (k_unfold; (try dsimp only)) | (k_end; wrow_close) | walk1 | (dsimp only; walk1) | (leave1; walk_say "STEP leave1"; try dsimp only) | fail "no step")))
    (rename Fr _ _ _ _ => F9); (rename News _ _ _ _ => N9)
    with_unfolding_all refine ne_same (d := .list []) (P7.rf.at N9 (by (first | (walk_at "MY subB") | (walk_say "OLDSUB"; ((intro p hp; (try simp only [List.mem_cons, List.mem_append, List.cons_append, List.nil_append, List.append_nil, List.not_mem_nil, or_false, false_or, or_assoc] at hp ⊢); first | (simp only [hp, true_or, or_true]; done) | (revert hp; (repeat (first | (with_reducible show (_ ∨ _) → _; refine or_imp.mpr ⟨fun hp => (by simp only [hp, true_or, or_true]), ?_⟩) | fail "no more")); (intro hp; simp only [hp, true_or, or_true]; done)))))))) (rd_none N9 (by k_mem)) rfl (show (7 : Nat) + 64 < cLine by decide) ?_
    have N8 := News.sub (b := (K, W.listOf #[Value.ref a0, Value.ref a1', Value.ref a2] nk) :: (F, W.listOf #[f0, f1, f2] nf) :: rest) N9 (by (first | (walk_at "MY subB") | (walk_say "OLDSUB"; ((intro p hp; (try simp only [List.mem_cons, List.mem_append, List.cons_append, List.nil_append, List.append_nil, List.not_mem_nil, or_false, false_or, or_assoc] at hp ⊢); first | (simp only [hp, true_or, or_true]; done) | (revert hp; (repeat (first | (with_reducible show (_ ∨ _) → _; refine or_imp.mpr ⟨fun hp => (by simp only [hp, true_or, or_true]), ?_⟩) | fail "no more")); (intro hp; simp only [hp, true_or, or_true]; done)))))))
    clear N9
    clear hk1 hk2 hf1 hf2 hw1 hw2 hkA hsA hkn hm1 hR1 hml hml2 hv1 P1 P4 hm4 hR4 hv4 I4 I0
    rename_i law8ay0 law8ay1 law8ay2 law8ay3 law8ay4 law8ay5 law8ay6 law8ay7 law8ay8 law8ay9 law8ay10 law8ay11
    revert law1y0 law1y1 law1y2 law1y3 law1y4 law1y5 law1y6 law1y7 law1y8 law1y9 law1y10 law1y11 law1y12 law1y13 KX law1y14 law1y15 law1y16 law1y17
      law1y18 law1y19 law1y20 law1y21 law1y22 law1y23 law1y24 law1y25 law1y26 law1y27 hSc law1y28 hlen63 law1y29 law1y30 law1y31 law1y32 law1y33 law1y34
      law1y35 law1y36 law1y37 law1y38 law1y39 sc hsc hS14 law1y40 law1y41 hS14l hscl law1y42 law6dy0 law1y43 law1y44 law1y45 law1y46 cs hcs hcr hcl hI
      hyl law1y47 law1y48 law1y49 law1y50 law1y51 law1y52 law1y53 law1y54 law1y55 law1y56 law1y57 wh law3dy0 law3dy1 law1y58 law1y59 how th law1y60
      law1y61 law1y62 law1y63 law1y64 law1y65 law1y66 law1y67 law1y68 law1y69 law1y70 law1y71 law1y72 law1y73 law1y74 law1y75 law1y76 law1y77 law1y78
      law1y79 law1y80 lifted qk ek tk5 law1y81 law1y82 law1y83 law1y84 law1y85 law1y86 law1y87 law1y88 law1y89 law1y90 law1y91 law1y92 law1y93 law1y94
      law1y95 law1y96 str hstr bw law1y97 tlO c1 law1y98 law1y99 law1y100 tlE ys D₂ law1y101 law1y102 law1y103 law1y104 law1y105 law1y106 law8ay0
      law1y107 law1y108 g9 tlE2 ys2 hR D₃ law1y109 law1y110 law1y112 law1y113 law1y114 tlW h9 tk9 aW law1y115 law1y116 law1y118 h8 n8 tlR ess hGood hEl
      law2gy1 law2gy4 law2gy7 law2gy9 law2gy10 law2gy12 law2gy13 law2gy14 law2gy16 law2gy17 law2gy19 law2gy20 A F K R law1y117 law2gy15 law2gy18 law2gy2
      law2gy5 law2gy8 law2gy11 law2gy21 hKF hKA hFA law6dy1 law6dy2 law6dy3 as nk nf na tl law6dy4 law6dy7 law6dy8 rest hRa hOpt hCs2 hsep hl3 law6dy10
      law6dy11 law6dy12 law6dy13 law6dy14 law6dy15 u h tk F₁ hAll hnS t1 h1 tk1 a1 v1 n1 D2 c2 h2 r3 t3 h3 tk3 e0 e1 e2 hE hA0 f0 f1 f2 law6dy6 hl2 hRf
      hf0 w0 w1 w2 hvl hRm hRw hw0 a0 v0 n0 hk0 hm0 hR0 a1' v1' n1' hm1' law8ay1 a2 v2 n2 law6dy5 hl1 hRk law6dy9 N₁ ho hm2 law8ay2 law8ay3 law8ay4
      law8ay5 t4 h4 tk4 a4 v4 n4 hv0 D5 c5 h5 D6 c6 h6 law8ay6 law8ay7 law8ay8 r7 t7 h7 tk7 P7 law8ay9 law8ay10 F9 law8ay11 N8
    exact hNext0.down
end

section
theorem top_off_L9 : True := by
  w_top off
  exact trivial
theorem cut_valN {M : Model} {A : Around} {E : Value → Shared → Prop} {s : Shared} {t : Sem Value} {Q : Value → Shared → Prop} {h₀ : Heap} {L : Addr} {m : Str → Option Value} {nw : List (Addr × Obj)} (P : Value → Prop) (F : Fr h₀ L s.heap m) (_N : News h₀ L s.heap nw)
    (h1 : wpAny M A t (CutPost P nw h₀ L m s) (fun _ _ => False) s) (h2 : ∀ v h' tk, P v → Fr h₀ L h' m → News h₀ L h' nw → Q v { s with heap := h', toks := tk }) : wpAny M A t Q E s := cut_val P nw F h1 h2
def menuS (c : Int) : Int := [0, 1, 97].getD (c.fmod 3).toNat 0
theorem menuS_in (c : Int) : 0 ≤ menuS c ∧ menuS c ≤ 1000 := by
  unfold menuS
  generalize (c.fmod 3).toNat = n
  match n with
  | 0 => decide
  | 1 => decide
  | 2 => decide
  | n + 3 => exact ⟨by simp, by simp⟩
theorem eq_same {prog : Program} {w : World} {A : Around} {E : Value → Shared → Prop} {s : Shared} {a b : Value} {d : PyData} {Q : Value → Shared → Prop} (ra : Rd s.heap a d) (rb : Rd s.heap b d) (hd : SeqAt.shaped d = true) (hu : A.units + 64 < cLine)
    (h : Q (.bool true) s) : wpAny (model prog w) A (compareOp .Eq a b) Q E s := by
  obtain ⟨as, ra⟩ := ra
  obtain ⟨bs, rb⟩ := rb
  refine eq_dataH ra rb hd hd hu ?_
  rw [SeqAt.eqv_refl d (SeqAt.canLay_of_shaped hd)]
  exact h
theorem pack3 {how : How} {bw : Bool} {g g0 h : Heap} {L D x d : Addr} {oD ox od : Obj} {k f : Addr × Obj} {rest : List (Addr × Obj)} {v : Value} (N : News g L h ((D, oD) :: (x, ox) :: (d, od) :: k :: f :: rest)) (ho : OptIn g0 [(x, ox), (d, od)] v how 5 bw) : ∃ tO, OptIn g0 tO v how 5 bw ∧ News g L h ((D, oD) :: f :: (rest ++ tO)) := by
  refine ⟨_, ho, fun p hp => N p ?_⟩
  simp only [List.mem_cons, List.mem_append, List.not_mem_nil, or_false] at hp ⊢
  rcases hp with hp | hp | hp | hp | hp <;> simp [hp]
set_option maxHeartbeats 16000000 in
noncomputable def SL9 : { P : Prop // PLift P → SL8.1 } := by
  w_top off
  refine ⟨?P, fun hNext0 => ?_⟩
  rotate_left
  · intro law1y0 law1y1 law1y2 law1y3 law1y4 law1y5 law1y6 law1y7 law1y8 law1y9 law1y10 law1y11 law1y12 law1y13 KX law1y14 law1y15 law1y16 law1y17
      law1y18 law1y19 law1y20 law1y21 law1y22 law1y23 law1y24 law1y25 law1y26 law1y27 hSc law1y28 hlen63 law1y29 law1y30 law1y31 law1y32 law1y33 law1y34
      law1y35 law1y36 law1y37 law1y38 law1y39 sc hsc hS14 law1y40 law1y41 hS14l hscl law1y42 law6dy0 law1y43 law1y44 law1y45 law1y46 cs hcs hcr hcl hI
      hyl law1y47 law1y48 law1y49 law1y50 law1y51 law1y52 law1y53 law1y54 law1y55 law1y56 law1y57 wh law3dy0 law3dy1 law1y58 law1y59 how th law1y60
      law1y61 law1y62 law1y63 law1y64 law1y65 law1y66 law1y67 law1y68 law1y69 law1y70 law1y71 law1y72 law1y73 law1y74 law1y75 law1y76 law1y77 law1y78
      law1y79 law1y80 lifted qk ek tk5 law1y81 law1y82 law1y83 law1y84 law1y85 law1y86 law1y87 law1y88 law1y89 law1y90 law1y91 law1y92 law1y93 law1y94
      law1y95 law1y96 str hstr bw law1y97 tlO c1 law1y98 law1y99 law1y100 tlE ys D₂ law1y101 law1y102 law1y103 law1y104 law1y105 law1y106 law8ay0
      law1y107 law1y108 g9 tlE2 ys2 hR D₃ law1y109 law1y110 law1y112 law1y113 law1y114 tlW h9 tk9 aW law1y115 law1y116 law1y118 h8 n8 tlR ess hGood hEl
      law2gy1 law2gy4 law2gy7 law2gy9 law2gy10 law2gy12 law2gy13 law2gy14 law2gy16 law2gy17 law2gy19 law2gy20 A F K R law1y117 law2gy15 law2gy18 law2gy2
      law2gy5 law2gy8 law2gy11 law2gy21 hKF hKA hFA law6dy1 law6dy2 law6dy3 as nk nf na tl law6dy4 law6dy7 law6dy8 rest hRa hOpt hCs2 hsep hl3 law6dy10
      law6dy11 law6dy12 law6dy13 law6dy14 law6dy15 u h tk F₁ hAll hnS t1 h1 tk1 a1 v1 n1 D2 c2 h2 r3 t3 h3 tk3 e0 e1 e2 hE hA0 f0 f1 f2 law6dy6 hl2 hRf
      hf0 w0 w1 w2 hvl hRm hRw hw0 a0 v0 n0 hk0 hm0 hR0 a1' v1' n1' hm1' law8ay1 a2 v2 n2 law6dy5 hl1 hRk law6dy9 N₁ ho hm2 law8ay2 law8ay3 law8ay4
      law8ay5 t4 h4 tk4 a4 v4 n4 hv0 D5 c5 h5 D6 c6 h6 law8ay6 law8ay7 law8ay8 r7 t7 h7 tk7 P7 law8ay9 law8ay10 F9 law8ay11 N8
    (have hhX := KX); revert hhX; k_fill; intro hhX; clear hhX
    (repeat' ((fail_if_success (with_reducible show wpAny _ _ (execs (Stmt.Assign [Expr.Attribute _ _ _] _ _ :: _) _) _ _ _)); (((fail_if_success (with_reducible show wpAny _ _ (call (Value.builtin "len") _) _ _ _)); (fail_if_success (with_reducible show wpAny _ _ (call (Value.type "list") _) _ _ _)); (fail_if_success (with_reducible show wpAny _ _ (compareOp _ (Value.ref _) _) _ _ _)); (fail_if_success (with_reducible show wpAny _ _ (compareOp _ _ (Value.ref _)) _ _ _)); (fail_if_success (with_reducible show wpAny _ _ (call (Value.type _) (Value.ref _ :: _)) _ _ _)); (fail_if_success (with_reducible show wpAny _ _ (call (Value.builtin _) (Value.ref _ :: _)) _ _ _)); (((fail_if_success (with_reducible show wpAny _ _ (call (Value.ref _) _) _ _ _)); (fail_if_success (with_reducible show wpAny _ _ (exec (Stmt.While _ _ _ _) _) _ _ _)))))); (first | (k_unfold; (try dsimp only)) | (k_end; wrow_close) | walk1 | (dsimp only; walk1) | (leave1; walk_say "STEP leave1"; try dsimp only) | fail "no step")))
    (rename Fr _ _ _ _ => lF)
    have F7 := init_frame lF (by with_unfolding_all rfl)
    clear lF
    generalize (_ + List.length _) = tk5
    (repeat' ((((fail_if_success (with_reducible show wpAny _ _ (call (Value.builtin "len") _) _ _ _)); (fail_if_success (with_reducible show wpAny _ _ (call (Value.type "list") _) _ _ _)); (fail_if_success (with_reducible show wpAny _ _ (compareOp _ (Value.ref _) _) _ _ _)); (fail_if_success (with_reducible show wpAny _ _ (compareOp _ _ (Value.ref _)) _ _ _)); (fail_if_success (with_reducible show wpAny _ _ (call (Value.type _) (Value.ref _ :: _)) _ _ _)); (fail_if_success (with_reducible show wpAny _ _ (call (Value.builtin _) (Value.ref _ :: _)) _ _ _)); (((fail_if_success (with_reducible show wpAny _ _ (call (Value.ref _) _) _ _ _)); (fail_if_success (with_reducible show wpAny _ _ (exec (Stmt.While _ _ _ _) _) _ _ _)))))); (first | (k_unfold; (try dsimp only)) | (k_end; wrow_close) | walk1 | (dsimp only; walk1) | (leave1; walk_say "STEP leave1"; try dsimp only) | fail "no step")))
    (try dsimp only)
    (rename Fr _ _ _ _ => lF); (rename News _ _ _ _ => lN); (rename IntsAre _ _ => hC1)
    have hOp2 : OptIn _ _ _ how 5 false := OptIn.mk 22 lN KX (.tail _ (.head _)) (.tail _ (.tail _ (.head _))) ⟨_, rfl⟩ ⟨_, rfl⟩ rfl ⟨_, rfl⟩ rfl rfl rfl rfl
    obtain ⟨tO, hOp2, N8⟩ := pack3 lN hOp2
    clear lN
    generalize hc3 : List.take _ (List.drop 2 cs) = c3 at *
    have hc3l : c3.length ≤ 14 := by omega
    have hC1l := hC1.length
    refine comp_list (fun i => ((c3.take i).map menuS).map .int) rfl lF N8 (.inr ⟨_, .head _, rfl, _, rfl⟩) (by rw [hC1l]; first | exact fit100 (by assumption) | exact fit1000 (by assumption) | exact fit500 (by assumption) | (rw [sizeLine_eq]; omega)) rfl ?_ ?_
    · intro i v ys tl I' oI C oC D₂ m₂ h tk E' hv hR hC hx F₁ N₁ off ne
      ((try with_reducible show wpAny _ _ _ _ _ _); (try k_fold))
      obtain ⟨x, t, rfl, hx2⟩ := hC1.at i v hv
      have hs1 := map_take_succ menuS c3 i _ hx2
      clear lF N8
      (try k_fold)
      refine cut_valN (fun v => ∃ t, v = .int (menuS x) t) F₁ N₁ ?_ ?_
      · k_steps
        (rename Fr _ _ _ _ => F8); (rename News _ _ _ _ => N8)
        with_unfolding_all exact CutPost.mk ⟨_, rfl⟩ F8 N8 (by (first | (walk_at "MY subB") | (walk_say "OLDSUB"; ((intro p hp; (try simp only [List.mem_cons, List.mem_append, List.cons_append, List.nil_append, List.append_nil, List.not_mem_nil, or_false, false_or, or_assoc] at hp ⊢); first | (simp only [hp, true_or, or_true]; done) | (revert hp; (repeat (first | (with_reducible show (_ ∨ _) → _; refine or_imp.mpr ⟨fun hp => (by simp only [hp, true_or, or_true]), ?_⟩) | fail "no more")); (intro hp; simp only [hp, true_or, or_true]; done)))))))
      · intro v h8 tk8 hp9a F8 N8
        ((try with_reducible show wpAny _ _ _ _ _ _); (try k_fold))
        obtain ⟨t8, rfl⟩ := hp9a
        refine LCg.CompEnd.intro F8 N8 _ (fun _ h => h) off (.inr ⟨_, List.mem_append.mpr (.inr (.head _)), rfl, _, rfl⟩) ⟨tl, rfl, ?_⟩
        rw [hs1, List.map_append]; exact hR.append (.cons Rf.int .nil)
    · intro g9 tl ys hR
      intro D₂ h9 tk9 F9 N9 o9
      rw [show c3.take _ = c3 by rw [List.take_of_length_le]; rw [hC1l]; exact Nat.le_refl _] at hR
      have hI : IntsAre ys (c3.map menuS) := rfAll_ints N9 (fun p hp => .tail _ (List.mem_append.mpr (.inl hp))) hR
      clear lF N8
      (repeat' ((fail_if_success (with_reducible show wpAny _ _ (subscriptTail _ _ (Value.ref _) _) _ _ _)); (((fail_if_success (with_reducible show wpAny _ _ (call (Value.builtin "len") _) _ _ _)); (fail_if_success (with_reducible show wpAny _ _ (call (Value.type "list") _) _ _ _)); (fail_if_success (with_reducible show wpAny _ _ (compareOp _ (Value.ref _) _) _ _ _)); (fail_if_success (with_reducible show wpAny _ _ (compareOp _ _ (Value.ref _)) _ _ _)); (fail_if_success (with_reducible show wpAny _ _ (call (Value.type _) (Value.ref _ :: _)) _ _ _)); (fail_if_success (with_reducible show wpAny _ _ (call (Value.builtin _) (Value.ref _ :: _)) _ _ _)); (((fail_if_success (with_reducible show wpAny _ _ (call (Value.ref _) _) _ _ _)); (fail_if_success (with_reducible show wpAny _ _ (exec (Stmt.While _ _ _ _) _) _ _ _)))))); (first | (k_unfold; (try dsimp only)) | (k_end; wrow_close) | walk1 | (dsimp only; walk1) | (leave1; walk_say "STEP leave1"; try dsimp only) | fail "no step")))
      (rename Fr _ _ _ _ => F9); (rename News _ _ _ _ => N9)
      with_unfolding_all refine list_at (us := [f0, f1, f2]) (isListN N9 (by k_mem)) (.inl ⟨by decide, rfl⟩) (by decide) (by decide) ?_ (by with_unfolding_all rfl)
      have hpl : (c3.map menuS).length ≤ 100 ∧ ∀ x ∈ c3.map menuS, 0 ≤ x ∧ x ≤ 1000 := ⟨by rw [List.length_map]; omega, fun x hx => by obtain ⟨c, _, rfl⟩ := List.mem_map.mp hx; exact menuS_in c⟩
      have hplr : (c3.map menuS).reverse.length ≤ 100 ∧ ∀ x ∈ (c3.map menuS).reverse, 0 ≤ x ∧ x ≤ 1000 := ⟨by rw [List.length_reverse]; exact hpl.1, fun x hx => hpl.2 x (List.mem_reverse.mp hx)⟩
      clear o9 hR
      generalize hpE : c3.map menuS = pl at *
      (repeat' ((((fail_if_success (with_reducible show wpAny _ _ (call (Value.builtin "len") _) _ _ _)); (fail_if_success (with_reducible show wpAny _ _ (call (Value.type "list") _) _ _ _)); (fail_if_success (with_reducible show wpAny _ _ (compareOp _ (Value.ref _) _) _ _ _)); (fail_if_success (with_reducible show wpAny _ _ (compareOp _ _ (Value.ref _)) _ _ _)); (fail_if_success (with_reducible show wpAny _ _ (call (Value.type _) (Value.ref _ :: _)) _ _ _)); (fail_if_success (with_reducible show wpAny _ _ (call (Value.builtin _) (Value.ref _ :: _)) _ _ _)); (((fail_if_success (with_reducible show wpAny _ _ (call (Value.ref _) _) _ _ _)); (fail_if_success (with_reducible show wpAny _ _ (exec (Stmt.While _ _ _ _) _) _ _ _)))))); (first | (k_unfold; (try dsimp only)) | (k_end; wrow_close) | walk1 | (dsimp only; walk1) | (leave1; walk_say "STEP leave1"; try dsimp only) | fail "no step")))
      with_unfolding_all refine' Con.use (con_wkeyp how false (weightedS how e0) hA0.wlen pl hpl) ?k1 ?k2 ?k3 ?k4 ?k5 ?kK ?kP ?kd ?ku ?_
      (((((case k1 => k_asm); (case k2 => k_asm); (case k3 => k_asm); (case k4 => k_asm); (case k5 => k_asm); (case kK => first | exact rfl | assumption))); (case kd => decide); (case ku => decide)))
      case kP => exact ⟨_, _, _, rfl, hf0.at (by assumption) (by (first | (walk_at "MY subB") | (walk_say "OLDSUB"; ((intro p hp; (try simp only [List.mem_cons, List.mem_append, List.cons_append, List.nil_append, List.append_nil, List.not_mem_nil, or_false, false_or, or_assoc] at hp ⊢); first | (simp only [hp, true_or, or_true]; done) | (revert hp; (repeat (first | (with_reducible show (_ ∨ _) → _; refine or_imp.mpr ⟨fun hp => (by simp only [hp, true_or, or_true]), ?_⟩) | fail "no more")); (intro hp; simp only [hp, true_or, or_true]; done))))))), hOp2.at (by assumption) (by assumption) (by (first | (walk_at "MY subB") | (walk_say "OLDSUB"; ((intro p hp; (try simp only [List.mem_cons, List.mem_append, List.cons_append, List.nil_append, List.append_nil, List.not_mem_nil, or_false, false_or, or_assoc] at hp ⊢); first | (simp only [hp, true_or, or_true]; done) | (revert hp; (repeat (first | (with_reducible show (_ ∨ _) → _; refine or_imp.mpr ⟨fun hp => (by simp only [hp, true_or, or_true]), ?_⟩) | fail "no more")); (intro hp; simp only [hp, true_or, or_true]; done))))))), rd_ints_in (by assumption) (show (D₂, W.listOf (List.toArray ys) _) ∈ _ by k_mem) hI⟩
      intro r1 t1 h1 tk1 F1 N1 of1 P1
      clear of1
      have N8 := News.sub (b := (D₂, W.listOf (List.toArray ys) ys.length) :: (F, W.listOf #[f0, f1, f2] nf) :: (rest ++ (tO ++ t1))) N1 (by (first | (walk_at "MY subB") | (walk_say "OLDSUB"; ((intro p hp; (try simp only [List.mem_cons, List.mem_append, List.cons_append, List.nil_append, List.append_nil, List.not_mem_nil, or_false, false_or, or_assoc] at hp ⊢); first | (simp only [hp, true_or, or_true]; done) | (revert hp; (repeat (first | (with_reducible show (_ ∨ _) → _; refine or_imp.mpr ⟨fun hp => (by simp only [hp, true_or, or_true]), ?_⟩) | fail "no more")); (intro hp; simp only [hp, true_or, or_true]; done)))))))
      clear N1
      rename_i law9ay0 law9ay1 law9ay2 law9ay3 law9ay4 law9ay5 law9ay6 law9ay7 law9ay8 law9ay9 law9ay10 law9ay11 law9ay12 law9ay13 law9ay14 law9ay15
        law9ay16 law9ay17 law9ay18 law9ay19 law9ay20 law9ay21 law9ay22 law9ay23 law9ay24 law9ay25 law9ay26 law9ay27 law9ay28 law9ay29 law9ay30 law9ay31
        law9ay32 law9ay33 law9ay34 law9ay35 law9ay36 law9ay37 law9ay38 law9ay39 law9ay40 law9ay41 law9ay42 law9ay43 law9ay44 law9ay45 law9ay46 law9ay47
        law9ay48 law9ay49 law9ay50 law9ay51 law9ay52 law9ay53 law9ay54 law9ay55 law9ay56
      revert law1y0 law1y1 law1y2 law1y3 law1y4 law1y5 law1y6 law1y7 law1y8 law1y9 law1y10 law1y11 law1y12 law1y13 KX law1y14 law1y15 law1y16 law1y17
        law1y18 law1y19 law1y20 law1y21 law1y22 law1y23 law1y24 law1y25 law1y26 law1y27 hSc law1y28 hlen63 law1y29 law1y30 law1y31 law1y32 law1y33
        law1y34 law1y35 law1y36 law1y37 law1y38 law1y39 sc hsc hS14 law1y40 law1y41 hS14l hscl law1y42 law6dy0 law1y43 law1y44 law1y45 law1y46 cs hcs
        hcr hcl law9ay0 hyl law1y47 law1y48 law1y49 law1y50 law1y51 law1y52 law1y53 law1y54 law1y55 law1y56 law1y57 wh law3dy0 law3dy1 law1y58 law1y59
        how th law1y60 law1y61 law1y62 law1y63 law1y64 law1y65 law1y66 law1y67 law1y68 law1y69 law1y70 law1y71 law1y72 law1y73 law1y74 law1y75 law1y76
        law1y77 law1y78 law1y79 law1y80 law9ay1 law9ay2 law9ay3 law9ay4 law1y81 law1y82 law1y83 law1y84 law1y85 law1y86 law1y87 law1y88 law1y89 law1y90
        law1y91 law1y92 law1y93 law1y94 law1y95 law1y96 str hstr bw law1y97 tlO c1 law1y98 law1y99 law1y100 tlE law9ay5 law9ay6 law1y101 law1y102
        law1y103 law1y104 law1y105 law1y106 law8ay0 law1y107 law1y108 law9ay7 tlE2 ys2 hR D₃ law1y109 law1y110 law1y112 law1y113 law1y114 tlW law9ay8
        law9ay9 aW law1y115 law1y116 law1y118 h8 n8 tlR ess hGood hEl law2gy1 law2gy4 law2gy7 law2gy9 law2gy10 law2gy12 law2gy13 law2gy14 law2gy16
        law2gy17 law2gy19 law2gy20 A F K R law1y117 law2gy15 law2gy18 law2gy2 law2gy5 law2gy8 law2gy11 law2gy21 hKF hKA hFA law6dy1 law6dy2 law6dy3 as
        nk nf na law9ay10 law6dy4 law6dy7 law6dy8 rest hRa hOpt hCs2 hsep hl3 law6dy10 law6dy11 law6dy12 law6dy13 law6dy14 law6dy15 u h law9ay11 F₁ hAll
        hnS law9ay12 law9ay13 law9ay14 a1 v1 n1 D2 c2 h2 r3 t3 h3 tk3 e0 e1 e2 hE hA0 f0 f1 f2 law6dy6 hl2 hRf hf0 w0 w1 w2 hvl hRm hRw hw0 a0 v0 n0 hk0
        hm0 hR0 a1' v1' n1' hm1' law8ay1 a2 v2 n2 law6dy5 hl1 hRk law6dy9 N₁ ho hm2 law8ay2 law8ay3 law8ay4 law8ay5 t4 h4 tk4 a4 v4 n4 hv0 D5 c5 h5 D6
        c6 h6 law8ay6 law8ay7 law8ay8 r7 t7 h7 tk7 P7 law8ay9 law8ay10 law8ay11 tk law9ay15 law9ay16 law9ay17 law9ay18 law9ay19 law9ay20 law9ay21
        law9ay22 law9ay23 law9ay24 law9ay25 law9ay26 law9ay27 lifted qk ek tk5 law9ay28 law9ay29 law9ay30 law9ay31 law9ay32 law9ay33 law9ay34 law9ay35
        law9ay36 law9ay37 law9ay38 law9ay39 law9ay40 law9ay41 law9ay42 law9ay43 law9ay44 tO hOp2 c3 hc3 hC1 law9ay45 law9ay46 hc3l hC1l g9 tl ys D₂ h9
        tk9 law9ay47 law9ay48 law9ay49 law9ay50 law9ay51 law9ay52 law9ay53 law9ay54 law9ay55 law9ay56 F9 N9 pl hpE hI hpl hplr r1 t1 h1 tk1 F1 P1 N8
      exact hNext0.down
end

section
theorem top_off_L10 : True := by
  w_top off
  exact trivial
set_option maxHeartbeats 16000000 in
theorem SL10 : SL9.1 := by
  w_top off
  intro law1y0 law1y1 law1y2 law1y3 law1y4 law1y5 law1y6 law1y7 law1y8 law1y9 law1y10 law1y11 law1y12 law1y13 KX law1y14 law1y15 law1y16 law1y17
    law1y18 law1y19 law1y20 law1y21 law1y22 law1y23 law1y24 law1y25 law1y26 law1y27 hSc law1y28 hlen63 law1y29 law1y30 law1y31 law1y32 law1y33 law1y34
    law1y35 law1y36 law1y37 law1y38 law1y39 sc hsc hS14 law1y40 law1y41 hS14l hscl law1y42 law6dy0 law1y43 law1y44 law1y45 law1y46 cs hcs hcr hcl
    law9ay0 hyl law1y47 law1y48 law1y49 law1y50 law1y51 law1y52 law1y53 law1y54 law1y55 law1y56 law1y57 wh law3dy0 law3dy1 law1y58 law1y59 how th
    law1y60 law1y61 law1y62 law1y63 law1y64 law1y65 law1y66 law1y67 law1y68 law1y69 law1y70 law1y71 law1y72 law1y73 law1y74 law1y75 law1y76 law1y77
    law1y78 law1y79 law1y80 law9ay1 law9ay2 law9ay3 law9ay4 law1y81 law1y82 law1y83 law1y84 law1y85 law1y86 law1y87 law1y88 law1y89 law1y90 law1y91
    law1y92 law1y93 law1y94 law1y95 law1y96 str hstr bw law1y97 tlO c1 law1y98 law1y99 law1y100 tlE law9ay5 law9ay6 law1y101 law1y102 law1y103
    law1y104 law1y105 law1y106 law8ay0 law1y107 law1y108 law9ay7 tlE2 ys2 hR D₃ law1y109 law1y110 law1y112 law1y113 law1y114 tlW law9ay8 law9ay9 aW
    law1y115 law1y116 law1y118 h8 n8 tlR ess hGood hEl law2gy1 law2gy4 law2gy7 law2gy9 law2gy10 law2gy12 law2gy13 law2gy14 law2gy16 law2gy17 law2gy19
    law2gy20 A F K R law1y117 law2gy15 law2gy18 law2gy2 law2gy5 law2gy8 law2gy11 law2gy21 hKF hKA hFA law6dy1 law6dy2 law6dy3 as nk nf na law9ay10
    law6dy4 law6dy7 law6dy8 rest hRa hOpt hCs2 hsep hl3 law6dy10 law6dy11 law6dy12 law6dy13 law6dy14 law6dy15 u h law9ay11 F₁ hAll hnS law9ay12
    law9ay13 law9ay14 a1 v1 n1 D2 c2 h2 r3 t3 h3 tk3 e0 e1 e2 hE hA0 f0 f1 f2 law6dy6 hl2 hRf hf0 w0 w1 w2 hvl hRm hRw hw0 a0 v0 n0 hk0 hm0 hR0 a1'
    v1' n1' hm1' law8ay1 a2 v2 n2 law6dy5 hl1 hRk law6dy9 N₁ ho hm2 law8ay2 law8ay3 law8ay4 law8ay5 t4 h4 tk4 a4 v4 n4 hv0 D5 c5 h5 D6 c6 h6 law8ay6
    law8ay7 law8ay8 r7 t7 h7 tk7 P7 law8ay9 law8ay10 law8ay11 tk law9ay15 law9ay16 law9ay17 law9ay18 law9ay19 law9ay20 law9ay21 law9ay22 law9ay23
    law9ay24 law9ay25 law9ay26 law9ay27 lifted qk ek tk5 law9ay28 law9ay29 law9ay30 law9ay31 law9ay32 law9ay33 law9ay34 law9ay35 law9ay36 law9ay37
    law9ay38 law9ay39 law9ay40 law9ay41 law9ay42 law9ay43 law9ay44 tO hOp2 c3 hc3 hC1 law9ay45 law9ay46 hc3l hC1l g9 tl ys D₂ h9 tk9 law9ay47 law9ay48
    law9ay49 law9ay50 law9ay51 law9ay52 law9ay53 law9ay54 law9ay55 law9ay56 F9 N9 pl hpE hI hpl hplr r1 t1 h1 tk1 F1 P1 N8
  (have hhX := KX); revert hhX; k_fill; intro hhX; clear hhX
  (repeat' ((fail_if_success (with_reducible show wpAny _ _ (subscriptTail _ _ (Value.ref _) _) _ _ _)); (((fail_if_success (with_reducible show wpAny _ _ (call (Value.builtin "len") _) _ _ _)); (fail_if_success (with_reducible show wpAny _ _ (call (Value.type "list") _) _ _ _)); (fail_if_success (with_reducible show wpAny _ _ (compareOp _ (Value.ref _) _) _ _ _)); (fail_if_success (with_reducible show wpAny _ _ (compareOp _ _ (Value.ref _)) _ _ _)); (fail_if_success (with_reducible show wpAny _ _ (call (Value.type _) (Value.ref _ :: _)) _ _ _)); (fail_if_success (with_reducible show wpAny _ _ (call (Value.builtin _) (Value.ref _ :: _)) _ _ _)); (((fail_if_success (with_reducible show wpAny _ _ (call (Value.ref _) _) _ _ _)); (fail_if_success (with_reducible show wpAny _ _ (exec (Stmt.While _ _ _ _) _) _ _ _)))))); (first | (k_unfold; (try dsimp only)) | (k_end; wrow_close) | walk1 | (dsimp only; walk1) | (leave1; walk_say "STEP leave1"; try dsimp only) | fail "no step")))
  (rename Fr _ _ _ _ => F9); (rename News _ _ _ _ => N9)
  with_unfolding_all refine list_at (us := [f0, f1, f2]) (isListN N9 (by k_mem)) (.inl ⟨by decide, rfl⟩) (by decide) (by decide) ?_ (by with_unfolding_all rfl)
  (repeat' ((((fail_if_success (with_reducible show wpAny _ _ (call (Value.builtin "len") _) _ _ _)); (fail_if_success (with_reducible show wpAny _ _ (call (Value.type "list") _) _ _ _)); (fail_if_success (with_reducible show wpAny _ _ (compareOp _ (Value.ref _) _) _ _ _)); (fail_if_success (with_reducible show wpAny _ _ (compareOp _ _ (Value.ref _)) _ _ _)); (fail_if_success (with_reducible show wpAny _ _ (call (Value.type _) (Value.ref _ :: _)) _ _ _)); (fail_if_success (with_reducible show wpAny _ _ (call (Value.builtin _) (Value.ref _ :: _)) _ _ _)); (((fail_if_success (with_reducible show wpAny _ _ (call (Value.ref _) _) _ _ _)); (fail_if_success (with_reducible show wpAny _ _ (exec (Stmt.While _ _ _ _) _) _ _ _)))))); (first | (k_unfold; (try dsimp only)) | (k_end; wrow_close) | walk1 | (dsimp only; walk1) | (leave1; walk_say "STEP leave1"; try dsimp only) | fail "no step")))
  (rename IntsAre _ _ => hIr)
  with_unfolding_all refine' Con.use (con_wkeyp how false (weightedS how e0) hA0.wlen pl.reverse hplr) ?k1 ?k2 ?k3 ?k4 ?k5 ?kK ?kP ?kd ?ku ?_
  (((((case k1 => k_asm); (case k2 => k_asm); (case k3 => k_asm); (case k4 => k_asm); (case k5 => k_asm); (case kK => first | exact rfl | assumption))); (case kd => decide); (case ku => decide)))
  case kP => exact ⟨_, _, _, rfl, hf0.at (by assumption) (by (first | (walk_at "MY subB") | (walk_say "OLDSUB"; ((intro p hp; (try simp only [List.mem_cons, List.mem_append, List.cons_append, List.nil_append, List.append_nil, List.not_mem_nil, or_false, false_or, or_assoc] at hp ⊢); first | (simp only [hp, true_or, or_true]; done) | (revert hp; (repeat (first | (with_reducible show (_ ∨ _) → _; refine or_imp.mpr ⟨fun hp => (by simp only [hp, true_or, or_true]), ?_⟩) | fail "no more")); (intro hp; simp only [hp, true_or, or_true]; done))))))), hOp2.at (by assumption) (by assumption) (by (first | (walk_at "MY subB") | (walk_say "OLDSUB"; ((intro p hp; (try simp only [List.mem_cons, List.mem_append, List.cons_append, List.nil_append, List.append_nil, List.not_mem_nil, or_false, false_or, or_assoc] at hp ⊢); first | (simp only [hp, true_or, or_true]; done) | (revert hp; (repeat (first | (with_reducible show (_ ∨ _) → _; refine or_imp.mpr ⟨fun hp => (by simp only [hp, true_or, or_true]), ?_⟩) | fail "no more")); (intro hp; simp only [hp, true_or, or_true]; done))))))), rd_ints_in (by assumption) (by k_mem) hIr⟩
  intro r2 t2 h2 tk2 F2 N2 of2 P2
  have N8 := News.sub (b := (D₂, W.listOf (List.toArray ys) ys.length) :: (rest ++ (t1 ++ t2))) N2 (by (first | (walk_at "MY subB") | (walk_say "OLDSUB"; ((intro p hp; (try simp only [List.mem_cons, List.mem_append, List.cons_append, List.nil_append, List.append_nil, List.not_mem_nil, or_false, false_or, or_assoc] at hp ⊢); first | (simp only [hp, true_or, or_true]; done) | (revert hp; (repeat (first | (with_reducible show (_ ∨ _) → _; refine or_imp.mpr ⟨fun hp => (by simp only [hp, true_or, or_true]), ?_⟩) | fail "no more")); (intro hp; simp only [hp, true_or, or_true]; done)))))))
  clear N2 of2
  (repeat' ((fail_if_success (with_reducible show wpAny _ _ (subscriptTail _ _ (Value.ref _) _) _ _ _)); (((fail_if_success (with_reducible show wpAny _ _ (call (Value.builtin "len") _) _ _ _)); (fail_if_success (with_reducible show wpAny _ _ (call (Value.type "list") _) _ _ _)); (fail_if_success (with_reducible show wpAny _ _ (compareOp _ (Value.ref _) _) _ _ _)); (fail_if_success (with_reducible show wpAny _ _ (compareOp _ _ (Value.ref _)) _ _ _)); (fail_if_success (with_reducible show wpAny _ _ (call (Value.type _) (Value.ref _ :: _)) _ _ _)); (fail_if_success (with_reducible show wpAny _ _ (call (Value.builtin _) (Value.ref _ :: _)) _ _ _)); (((fail_if_success (with_reducible show wpAny _ _ (call (Value.ref _) _) _ _ _)); (fail_if_success (with_reducible show wpAny _ _ (exec (Stmt.While _ _ _ _) _) _ _ _)))))); (first | (k_unfold; (try dsimp only)) | (k_end; wrow_close) | walk1 | (dsimp only; walk1) | (leave1; walk_say "STEP leave1"; try dsimp only) | fail "no step")))
  (rename Fr _ _ _ _ => F9); (rename News _ _ _ _ => N9)
  with_unfolding_all refine list_at (us := [w0, w1, w2]) (isListN N9 (show (R, _) ∈ _ by k_mem)) (.inl ⟨by decide, rfl⟩) (by decide) (by decide) ?_ (by with_unfolding_all rfl)
  (repeat' ((fail_if_success (with_reducible show wpAny _ _ (subscriptTail _ _ (Value.ref _) _) _ _ _)); (((fail_if_success (with_reducible show wpAny _ _ (call (Value.builtin "len") _) _ _ _)); (fail_if_success (with_reducible show wpAny _ _ (call (Value.type "list") _) _ _ _)); (fail_if_success (with_reducible show wpAny _ _ (compareOp _ (Value.ref _) _) _ _ _)); (fail_if_success (with_reducible show wpAny _ _ (compareOp _ _ (Value.ref _)) _ _ _)); (fail_if_success (with_reducible show wpAny _ _ (call (Value.type _) (Value.ref _ :: _)) _ _ _)); (fail_if_success (with_reducible show wpAny _ _ (call (Value.builtin _) (Value.ref _ :: _)) _ _ _)); (((fail_if_success (with_reducible show wpAny _ _ (call (Value.ref _) _) _ _ _)); (fail_if_success (with_reducible show wpAny _ _ (exec (Stmt.While _ _ _ _) _) _ _ _)))))); (first | (k_unfold; (try dsimp only)) | (k_end; wrow_close) | walk1 | (dsimp only; walk1) | (leave1; walk_say "STEP leave1"; try dsimp only) | fail "no step")))
  have hG0 := hGood e0 (by rw [hE]; exact .head _)
  have hB0 := lev_all how 4 false e0 (by decide) hG0
  with_unfolding_all refine' Con.use (con_lweighed how e0 (by omega)) ?k1 ?k2 ?k3 ?k4 ?k5 ?kK ?kP ?kd ?ku ?_
  (((((case k1 => k_asm); (case k2 => k_asm); (case k3 => k_asm); (case k4 => k_asm); (case k5 => k_asm); (case kK => first | exact rfl | assumption))); (case kd => decide); (case ku => decide)))
  case kP => exact ⟨_, _, rfl, hw0.at (by assumption) (by (first | (walk_at "MY subB") | (walk_say "OLDSUB"; ((intro p hp; (try simp only [List.mem_cons, List.mem_append, List.cons_append, List.nil_append, List.append_nil, List.not_mem_nil, or_false, false_or, or_assoc] at hp ⊢); first | (simp only [hp, true_or, or_true]; done) | (revert hp; (repeat (first | (with_reducible show (_ ∨ _) → _; refine or_imp.mpr ⟨fun hp => (by simp only [hp, true_or, or_true]), ?_⟩) | fail "no more")); (intro hp; simp only [hp, true_or, or_true]; done)))))))⟩
  intro r3 t3 h3 tk3 F3 N3 of3 P3
  rw [lw_eq how e0 hG0.2] at P3
  clear of3
  (repeat' ((fail_if_success (with_reducible show wpAny _ _ (subscriptTail _ _ (Value.ref _) _) _ _ _)); (((fail_if_success (with_reducible show wpAny _ _ (call (Value.builtin "len") _) _ _ _)); (fail_if_success (with_reducible show wpAny _ _ (call (Value.type "list") _) _ _ _)); (fail_if_success (with_reducible show wpAny _ _ (compareOp _ (Value.ref _) _) _ _ _)); (fail_if_success (with_reducible show wpAny _ _ (compareOp _ _ (Value.ref _)) _ _ _)); (fail_if_success (with_reducible show wpAny _ _ (call (Value.type _) (Value.ref _ :: _)) _ _ _)); (fail_if_success (with_reducible show wpAny _ _ (call (Value.builtin _) (Value.ref _ :: _)) _ _ _)); (((fail_if_success (with_reducible show wpAny _ _ (call (Value.ref _) _) _ _ _)); (fail_if_success (with_reducible show wpAny _ _ (exec (Stmt.While _ _ _ _) _) _ _ _)))))); (first | (k_unfold; (try dsimp only)) | (k_end; wrow_close) | walk1 | (dsimp only; walk1) | (leave1; walk_say "STEP leave1"; try dsimp only) | fail "no step")))
  with_unfolding_all refine' Con.use (con_llev how 4 false (weightedS how e0) hB0.wlen (by decide) (fun e he => (weighted_good how e0 hG0.2 e he).pos)) ?k1 ?k2 ?k3 ?k4 ?k5 ?kK ?kP ?kd ?ku ?_
  (((((case k1 => k_asm); (case k2 => k_asm); (case k3 => k_asm); (case k4 => k_asm); (case k5 => k_asm); (case kK => first | exact rfl | assumption))); (case kd => decide); (case ku => decide)))
  case kP => exact ⟨_, _, _, rfl, P3.at (by assumption) (by (first | (walk_at "MY subB") | (walk_say "OLDSUB"; ((intro p hp; (try simp only [List.mem_cons, List.mem_append, List.cons_append, List.nil_append, List.append_nil, List.not_mem_nil, or_false, false_or, or_assoc] at hp ⊢); first | (simp only [hp, true_or, or_true]; done) | (revert hp; (repeat (first | (with_reducible show (_ ∨ _) → _; refine or_imp.mpr ⟨fun hp => (by simp only [hp, true_or, or_true]), ?_⟩) | fail "no more")); (intro hp; simp only [hp, true_or, or_true]; done)))))))⟩
  intro r4 t4 h4 tk4 F4 N4 of4 P4
  clear of4
  (repeat' ((fail_if_success (with_reducible show wpAny _ _ (subscriptTail _ _ (Value.ref _) _) _ _ _)); (((fail_if_success (with_reducible show wpAny _ _ (call (Value.builtin "len") _) _ _ _)); (fail_if_success (with_reducible show wpAny _ _ (call (Value.type "list") _) _ _ _)); (fail_if_success (with_reducible show wpAny _ _ (compareOp _ (Value.ref _) _) _ _ _)); (fail_if_success (with_reducible show wpAny _ _ (compareOp _ _ (Value.ref _)) _ _ _)); (fail_if_success (with_reducible show wpAny _ _ (call (Value.type _) (Value.ref _ :: _)) _ _ _)); (fail_if_success (with_reducible show wpAny _ _ (call (Value.builtin _) (Value.ref _ :: _)) _ _ _)); (((fail_if_success (with_reducible show wpAny _ _ (call (Value.ref _) _) _ _ _)); (fail_if_success (with_reducible show wpAny _ _ (exec (Stmt.While _ _ _ _) _) _ _ _)))))); (first | (k_unfold; (try dsimp only)) | (k_end; wrow_close) | walk1 | (dsimp only; walk1) | (leave1; walk_say "STEP leave1"; try dsimp only) | fail "no step")))
  with_unfolding_all refine' Con.use (con_lkeyL (levOf how 4 false e0) hB0.ne (Nat.le_trans hB0.le (by decide)) hB0.len) ?k1 ?k2 ?k3 ?k4 ?k5 ?kK ?kP ?kd ?ku ?_
  (((((case k1 => k_asm); (case k2 => k_asm); (case k3 => k_asm); (case k4 => k_asm); (case k5 => k_asm); (case kK => first | exact rfl | assumption))); (case kd => decide); (case ku => decide)))
  case kP => exact ⟨_, rfl, P4.rf.at (by assumption) (by (first | (walk_at "MY subB") | (walk_say "OLDSUB"; ((intro p hp; (try simp only [List.mem_cons, List.mem_append, List.cons_append, List.nil_append, List.append_nil, List.not_mem_nil, or_false, false_or, or_assoc] at hp ⊢); first | (simp only [hp, true_or, or_true]; done) | (revert hp; (repeat (first | (with_reducible show (_ ∨ _) → _; refine or_imp.mpr ⟨fun hp => (by simp only [hp, true_or, or_true]), ?_⟩) | fail "no more")); (intro hp; simp only [hp, true_or, or_true]; done)))))))⟩
  intro r5 t5 h5 tk5 F5 N5 of5 P5
  have N8 := News.sub (b := (D₂, W.listOf (List.toArray ys) ys.length) :: (rest ++ (t1 ++ (t2 ++ t5)))) N5 (by (first | (walk_at "MY subB") | (walk_say "OLDSUB"; ((intro p hp; (try simp only [List.mem_cons, List.mem_append, List.cons_append, List.nil_append, List.append_nil, List.not_mem_nil, or_false, false_or, or_assoc] at hp ⊢); first | (simp only [hp, true_or, or_true]; done) | (revert hp; (repeat (first | (with_reducible show (_ ∨ _) → _; refine or_imp.mpr ⟨fun hp => (by simp only [hp, true_or, or_true]), ?_⟩) | fail "no more")); (intro hp; simp only [hp, true_or, or_true]; done)))))))
  obtain ⟨a5, v5, rfl, hl5, hI5⟩ := rd_ints (P5.at N8 (by (first | (walk_at "MY subB") | (walk_say "OLDSUB"; ((intro p hp; (try simp only [List.mem_cons, List.mem_append, List.cons_append, List.nil_append, List.append_nil, List.not_mem_nil, or_false, false_or, or_assoc] at hp ⊢); first | (simp only [hp, true_or, or_true]; done) | (revert hp; (repeat (first | (with_reducible show (_ ∨ _) → _; refine or_imp.mpr ⟨fun hp => (by simp only [hp, true_or, or_true]), ?_⟩) | fail "no more")); (intro hp; simp only [hp, true_or, or_true]; done))))))))
  clear N5 of5 P3 P4 hl5 hI5
  (repeat' ((fail_if_success (with_reducible show wpAny _ _ (binaryOp Operator.Add (Value.ref _) _) _ _ _)); (fail_if_success (with_reducible show wpAny _ _ (binaryOp Operator.Add _ (Value.ref _)) _ _ _)); (fail_if_success (with_reducible show wpAny _ _ (subscriptTail _ _ (Value.ref _) _) _ _ _)); (((fail_if_success (with_reducible show wpAny _ _ (call (Value.builtin "len") _) _ _ _)); (fail_if_success (with_reducible show wpAny _ _ (call (Value.type "list") _) _ _ _)); (fail_if_success (with_reducible show wpAny _ _ (compareOp _ (Value.ref _) _) _ _ _)); (fail_if_success (with_reducible show wpAny _ _ (compareOp _ _ (Value.ref _)) _ _ _)); (fail_if_success (with_reducible show wpAny _ _ (call (Value.type _) (Value.ref _ :: _)) _ _ _)); (fail_if_success (with_reducible show wpAny _ _ (call (Value.builtin _) (Value.ref _ :: _)) _ _ _)); (((fail_if_success (with_reducible show wpAny _ _ (call (Value.ref _) _) _ _ _)); (fail_if_success (with_reducible show wpAny _ _ (exec (Stmt.While _ _ _ _) _) _ _ _)))))); (first | (k_unfold; (try dsimp only)) | (k_end; wrow_close) | walk1 | (dsimp only; walk1) | (leave1; walk_say "STEP leave1"; try dsimp only) | fail "no step")))
  (rename Fr _ _ _ _ => F9); (rename News _ _ _ _ => N9)
  obtain ⟨a5', v5, e5, hl5, hI5⟩ := rd_ints (P5.at N9 (by (first | (walk_at "MY subB") | (walk_say "OLDSUB"; ((intro p hp; (try simp only [List.mem_cons, List.mem_append, List.cons_append, List.nil_append, List.append_nil, List.not_mem_nil, or_false, false_or, or_assoc] at hp ⊢); first | (simp only [hp, true_or, or_true]; done) | (revert hp; (repeat (first | (with_reducible show (_ ∨ _) → _; refine or_imp.mpr ⟨fun hp => (by simp only [hp, true_or, or_true]), ?_⟩) | fail "no more")); (intro hp; simp only [hp, true_or, or_true]; done))))))))
  cases e5
  have hv5 := hI5.length
  have hB5 : (keyS (levOf how 4 false e0)).length ≤ 1000 := hB0.klen
  with_unfolding_all refine add_to (xs := v5) F9 N9 hl5 (isListN N9 (by k_mem)) (by rw [sizeLine_eq]; simp only [List.length_cons, List.length_nil]; omega) fun h6 D6 F6 N6 l6 => ?_
  have hI6 := fun t => hI5.append (IntsAre.cons 0 t IntsAre.nil)
  have l6D := l6 (D₂, W.listOf (List.toArray ys) ys.length) (by k_mem)
  have N8 := News.sub (b := (D6, _) :: (D₂, W.listOf (List.toArray ys) ys.length) :: (rest ++ (t1 ++ t2))) N6 (List.forall_mem_cons.mpr ⟨.head _, by (first | (walk_at "MY subB") | (walk_say "OLDSUB"; ((intro p hp; (try simp only [List.mem_cons, List.mem_append, List.cons_append, List.nil_append, List.append_nil, List.not_mem_nil, or_false, false_or, or_assoc] at hp ⊢); first | (simp only [hp, true_or, or_true]; done) | (revert hp; (repeat (first | (with_reducible show (_ ∨ _) → _; refine or_imp.mpr ⟨fun hp => (by simp only [hp, true_or, or_true]), ?_⟩) | fail "no more")); (intro hp; simp only [hp, true_or, or_true]; done))))))⟩)
  clear N9 F9 N6 l6 hl5 P5
  (repeat' ((fail_if_success (with_reducible show wpAny _ _ (binaryOp Operator.Add (Value.ref _) _) _ _ _)); (fail_if_success (with_reducible show wpAny _ _ (binaryOp Operator.Add _ (Value.ref _)) _ _ _)); (fail_if_success (with_reducible show wpAny _ _ (subscriptTail _ _ (Value.ref _) _) _ _ _)); (((fail_if_success (with_reducible show wpAny _ _ (call (Value.builtin "len") _) _ _ _)); (fail_if_success (with_reducible show wpAny _ _ (call (Value.type "list") _) _ _ _)); (fail_if_success (with_reducible show wpAny _ _ (compareOp _ (Value.ref _) _) _ _ _)); (fail_if_success (with_reducible show wpAny _ _ (compareOp _ _ (Value.ref _)) _ _ _)); (fail_if_success (with_reducible show wpAny _ _ (call (Value.type _) (Value.ref _ :: _)) _ _ _)); (fail_if_success (with_reducible show wpAny _ _ (call (Value.builtin _) (Value.ref _ :: _)) _ _ _)); (((fail_if_success (with_reducible show wpAny _ _ (call (Value.ref _) _) _ _ _)); (fail_if_success (with_reducible show wpAny _ _ (exec (Stmt.While _ _ _ _) _) _ _ _)))))); (first | (k_unfold; (try dsimp only)) | (k_end; wrow_close) | walk1 | (dsimp only; walk1) | (leave1; walk_say "STEP leave1"; try dsimp only) | fail "no step")))
  (rename Fr _ _ _ _ => F9); (rename News _ _ _ _ => N9)
  have hyl := hI.length
  refine comp_list (fun i => ((pl.take i).map (· + 2)).map .int) rfl F9 N9 (.inr ⟨_, .tail _ (.head _), rfl, _, rfl⟩) (by rw [hyl]; first | exact fit100 (by assumption) | exact fit1000 (by assumption) | exact fit500 (by assumption) | (rw [sizeLine_eq]; omega)) rfl ?_ ?_
  · intro i v ys' tl I' oI C oC D₂ m₂ h tk E' hv hR hC hx F₁ N₁ off ne
    ((try with_reducible show wpAny _ _ _ _ _ _); (try k_fold))
    obtain ⟨x, t, rfl, hx2⟩ := hI.at i v hv
    have hxr := hpl.2 x (List.mem_of_getElem? hx2)
    have hs1 := map_take_succ (· + 2) pl i _ hx2
    clear F9 N9 hv
    (try k_fold)
    (repeat' ((((fail_if_success (with_reducible show wpAny _ _ (call (Value.builtin "len") _) _ _ _)); (fail_if_success (with_reducible show wpAny _ _ (call (Value.type "list") _) _ _ _)); (fail_if_success (with_reducible show wpAny _ _ (compareOp _ (Value.ref _) _) _ _ _)); (fail_if_success (with_reducible show wpAny _ _ (compareOp _ _ (Value.ref _)) _ _ _)); (fail_if_success (with_reducible show wpAny _ _ (call (Value.type _) (Value.ref _ :: _)) _ _ _)); (fail_if_success (with_reducible show wpAny _ _ (call (Value.builtin _) (Value.ref _ :: _)) _ _ _)); (((fail_if_success (with_reducible show wpAny _ _ (call (Value.ref _) _) _ _ _)); (fail_if_success (with_reducible show wpAny _ _ (exec (Stmt.While _ _ _ _) _) _ _ _)))))); (first | (k_unfold; (try dsimp only)) | (k_end; wrow_close) | walk1 | (dsimp only; walk1) | (leave1; walk_say "STEP leave1"; try dsimp only) | fail "no step")))
    (rename Fr _ _ _ _ => F8); (rename News _ _ _ _ => N8)
    refine LCg.CompEnd.intro F8 N8 _ (fun _ h => h) off (.inr ⟨_, List.mem_append.mpr (.inr (.tail _ (.head _))), rfl, _, rfl⟩) ⟨tl, rfl, ?_⟩
    (try dsimp only)
    rw [hs1, List.map_append]; exact hR.append (.cons Rf.int .nil)
  · intro g9 tl ys9 hR
    intro D9 h9 tk9 F9' N9' o9
    rw [show pl.take _ = pl by rw [List.take_of_length_le]; rw [hyl]; exact Nat.le_refl _] at hR
    have hI9 : IntsAre ys9 (pl.map (· + 2)) := rfAll_ints N9' (fun p hp => .tail _ (List.mem_append.mpr (.inl hp))) hR
    have hyl9 := hI9.length
    rw [List.length_map] at hyl9
    clear F9 N9 hR o9
    (repeat' ((fail_if_success (with_reducible show wpAny _ _ (binaryOp Operator.Add (Value.ref _) _) _ _ _)); (fail_if_success (with_reducible show wpAny _ _ (binaryOp Operator.Add _ (Value.ref _)) _ _ _)); (fail_if_success (with_reducible show wpAny _ _ (subscriptTail _ _ (Value.ref _) _) _ _ _)); (((fail_if_success (with_reducible show wpAny _ _ (call (Value.builtin "len") _) _ _ _)); (fail_if_success (with_reducible show wpAny _ _ (call (Value.type "list") _) _ _ _)); (fail_if_success (with_reducible show wpAny _ _ (compareOp _ (Value.ref _) _) _ _ _)); (fail_if_success (with_reducible show wpAny _ _ (compareOp _ _ (Value.ref _)) _ _ _)); (fail_if_success (with_reducible show wpAny _ _ (call (Value.type _) (Value.ref _ :: _)) _ _ _)); (fail_if_success (with_reducible show wpAny _ _ (call (Value.builtin _) (Value.ref _ :: _)) _ _ _)); (((fail_if_success (with_reducible show wpAny _ _ (call (Value.ref _) _) _ _ _)); (fail_if_success (with_reducible show wpAny _ _ (exec (Stmt.While _ _ _ _) _) _ _ _)))))); (first | (k_unfold; (try dsimp only)) | (k_end; wrow_close) | walk1 | (dsimp only; walk1) | (leave1; walk_say "STEP leave1"; try dsimp only) | fail "no step")))
    (rename Fr _ _ _ _ => F9); (rename News _ _ _ _ => N9)
    with_unfolding_all refine add_to (ys := ys9) F9 N9 (isListN N9 (show (D6, _) ∈ _ by k_mem)) (isListN N9 (show (D9, W.listOf (List.toArray ys9) _) ∈ _ by k_mem)) (by rw [sizeLine_eq]; simp only [List.length_append, List.length_cons, List.length_nil]; omega) fun h7 D7 F7 N7 l7 => ?_
    have hI7 := fun t => (hI6 t).append hI9
    obtain ⟨b1, u1, m1, rfl, hmb1, hRb1⟩ := rl_list P1
    obtain ⟨b2, u2, m2, rfl, hmb2, hRb2⟩ := rl_list P2
    clear N9 F9
    (repeat' ((fail_if_success (with_reducible show wpAny _ _ (binaryOp Operator.Add (Value.ref _) _) _ _ _)); (fail_if_success (with_reducible show wpAny _ _ (binaryOp Operator.Add _ (Value.ref _)) _ _ _)); (fail_if_success (with_reducible show wpAny _ _ (subscriptTail _ _ (Value.ref _) _) _ _ _)); (((fail_if_success (with_reducible show wpAny _ _ (call (Value.builtin "len") _) _ _ _)); (fail_if_success (with_reducible show wpAny _ _ (call (Value.type "list") _) _ _ _)); (fail_if_success (with_reducible show wpAny _ _ (compareOp _ (Value.ref _) _) _ _ _)); (fail_if_success (with_reducible show wpAny _ _ (compareOp _ _ (Value.ref _)) _ _ _)); (fail_if_success (with_reducible show wpAny _ _ (call (Value.type _) (Value.ref _ :: _)) _ _ _)); (fail_if_success (with_reducible show wpAny _ _ (call (Value.builtin _) (Value.ref _ :: _)) _ _ _)); (((fail_if_success (with_reducible show wpAny _ _ (call (Value.ref _) _) _ _ _)); (fail_if_success (with_reducible show wpAny _ _ (exec (Stmt.While _ _ _ _) _) _ _ _)))))); (first | (k_unfold; (try dsimp only)) | (k_end; wrow_close) | walk1 | (dsimp only; walk1) | (leave1; walk_say "STEP leave1"; try dsimp only) | fail "no step")))
    (rename Fr _ _ _ _ => F9); (rename News _ _ _ _ => N9)
    rw [lev_54] at hRb1 hRb2
    have I1 : IntsAre u1 (keyS (levOf how 4 false e0) ++ 0 :: pl.map (· + 2)) := rfAll_ints N9 (by (first | (walk_at "MY subB") | (walk_say "OLDSUB"; ((intro p hp; (try simp only [List.mem_cons, List.mem_append, List.cons_append, List.nil_append, List.append_nil, List.not_mem_nil, or_false, false_or, or_assoc] at hp ⊢); first | (simp only [hp, true_or, or_true]; done) | (revert hp; (repeat (first | (with_reducible show (_ ∨ _) → _; refine or_imp.mpr ⟨fun hp => (by simp only [hp, true_or, or_true]), ?_⟩) | fail "no more")); (intro hp; simp only [hp, true_or, or_true]; done))))))) hRb1
    have I2 : IntsAre u2 (keyS (levOf how 4 false e0) ++ 0 :: pl.reverse.map (· + 2)) := rfAll_ints N9 (by (first | (walk_at "MY subB") | (walk_say "OLDSUB"; ((intro p hp; (try simp only [List.mem_cons, List.mem_append, List.cons_append, List.nil_append, List.append_nil, List.not_mem_nil, or_false, false_or, or_assoc] at hp ⊢); first | (simp only [hp, true_or, or_true]; done) | (revert hp; (repeat (first | (with_reducible show (_ ∨ _) → _; refine or_imp.mpr ⟨fun hp => (by simp only [hp, true_or, or_true]), ?_⟩) | fail "no more")); (intro hp; simp only [hp, true_or, or_true]; done))))))) hRb2
    have z1 : u1.length ≤ 2000 := by rw [I1.length, List.length_append, List.length_cons, List.length_map]; omega
    have z2 : u2.length ≤ 2000 := by rw [I2.length, List.length_append, List.length_cons, List.length_map, List.length_reverse]; omega
    simp only [List.append_assoc, List.singleton_append] at hI7
    have y1 := I1.length
    have y2 := I2.length
    with_unfolding_all refine list_copyK F9 N9 (isListN N9 (show (b1, W.listOf (List.toArray u1) m1) ∈ _ by k_mem)) (fun D1 c1 h1 F1 N1 l1 => ?_) (by rw [List.size_toArray]; first | exact fit100 (by assumption) | exact fit1000 (by assumption) | exact fit500 (by assumption) | (rw [sizeLine_eq]; omega))
    clear N9 F9 l1
    (repeat' ((fail_if_success (with_reducible show wpAny _ _ (binaryOp Operator.Add (Value.ref _) _) _ _ _)); (fail_if_success (with_reducible show wpAny _ _ (binaryOp Operator.Add _ (Value.ref _)) _ _ _)); (fail_if_success (with_reducible show wpAny _ _ (subscriptTail _ _ (Value.ref _) _) _ _ _)); (((fail_if_success (with_reducible show wpAny _ _ (call (Value.builtin "len") _) _ _ _)); (fail_if_success (with_reducible show wpAny _ _ (call (Value.type "list") _) _ _ _)); (fail_if_success (with_reducible show wpAny _ _ (compareOp _ (Value.ref _) _) _ _ _)); (fail_if_success (with_reducible show wpAny _ _ (compareOp _ _ (Value.ref _)) _ _ _)); (fail_if_success (with_reducible show wpAny _ _ (call (Value.type _) (Value.ref _ :: _)) _ _ _)); (fail_if_success (with_reducible show wpAny _ _ (call (Value.builtin _) (Value.ref _ :: _)) _ _ _)); (((fail_if_success (with_reducible show wpAny _ _ (call (Value.ref _) _) _ _ _)); (fail_if_success (with_reducible show wpAny _ _ (exec (Stmt.While _ _ _ _) _) _ _ _)))))); (first | (k_unfold; (try dsimp only)) | (k_end; wrow_close) | walk1 | (dsimp only; walk1) | (leave1; walk_say "STEP leave1"; try dsimp only) | fail "no step")))
    (rename Fr _ _ _ _ => F9); (rename News _ _ _ _ => N9)
    simp only [List.append_assoc, List.singleton_append] at N9
    with_unfolding_all refine eq_same (rd_ints_in N9 (show (D1, W.listOf (List.toArray u1) c1) ∈ _ by k_mem) I1) (rd_ints_in N9 (show (D7, _) ∈ _ by k_mem) (hI7 _)) (shaped_lP _) (show (7 : Nat) + 64 < cLine by decide) ?_
    have N8 := News.sub (b := (D₂, W.listOf (List.toArray ys) ys.length) :: (t1 ++ t2)) N9 (by (first | (walk_at "MY subB") | (walk_say "OLDSUB"; ((intro p hp; (try simp only [List.mem_cons, List.mem_append, List.cons_append, List.nil_append, List.append_nil, List.not_mem_nil, or_false, false_or, or_assoc] at hp ⊢); first | (simp only [hp, true_or, or_true]; done) | (revert hp; (repeat (first | (with_reducible show (_ ∨ _) → _; refine or_imp.mpr ⟨fun hp => (by simp only [hp, true_or, or_true]), ?_⟩) | fail "no more")); (intro hp; simp only [hp, true_or, or_true]; done)))))))
    clear N9
    (repeat' ((fail_if_success (with_reducible show wpAny _ _ (binaryOp Operator.Add (Value.ref _) _) _ _ _)); (fail_if_success (with_reducible show wpAny _ _ (binaryOp Operator.Add _ (Value.ref _)) _ _ _)); (fail_if_success (with_reducible show wpAny _ _ (subscriptTail _ _ (Value.ref _) _) _ _ _)); (((fail_if_success (with_reducible show wpAny _ _ (call (Value.builtin "len") _) _ _ _)); (fail_if_success (with_reducible show wpAny _ _ (call (Value.type "list") _) _ _ _)); (fail_if_success (with_reducible show wpAny _ _ (compareOp _ (Value.ref _) _) _ _ _)); (fail_if_success (with_reducible show wpAny _ _ (compareOp _ _ (Value.ref _)) _ _ _)); (fail_if_success (with_reducible show wpAny _ _ (call (Value.type _) (Value.ref _ :: _)) _ _ _)); (fail_if_success (with_reducible show wpAny _ _ (call (Value.builtin _) (Value.ref _ :: _)) _ _ _)); (((fail_if_success (with_reducible show wpAny _ _ (call (Value.ref _) _) _ _ _)); (fail_if_success (with_reducible show wpAny _ _ (exec (Stmt.While _ _ _ _) _) _ _ _)))))); (first | (k_unfold; (try dsimp only)) | (k_end; wrow_close) | walk1 | (dsimp only; walk1) | (leave1; walk_say "STEP leave1"; try dsimp only) | fail "no step")))
    (rename Fr _ _ _ _ => F9); (rename News _ _ _ _ => N9)
    with_unfolding_all refine list_copyK F9 N9 (isListN N9 (show (b1, W.listOf (List.toArray u1) m1) ∈ _ by k_mem)) (fun D1 c1 h1 F1 N1 l1 => ?_) (by rw [List.size_toArray]; first | exact fit100 (by assumption) | exact fit1000 (by assumption) | exact fit500 (by assumption) | (rw [sizeLine_eq]; omega))
    clear N9 F9 l1
    (repeat' ((fail_if_success (with_reducible show wpAny _ _ (binaryOp Operator.Add (Value.ref _) _) _ _ _)); (fail_if_success (with_reducible show wpAny _ _ (binaryOp Operator.Add _ (Value.ref _)) _ _ _)); (fail_if_success (with_reducible show wpAny _ _ (subscriptTail _ _ (Value.ref _) _) _ _ _)); (((fail_if_success (with_reducible show wpAny _ _ (call (Value.builtin "len") _) _ _ _)); (fail_if_success (with_reducible show wpAny _ _ (call (Value.type "list") _) _ _ _)); (fail_if_success (with_reducible show wpAny _ _ (compareOp _ (Value.ref _) _) _ _ _)); (fail_if_success (with_reducible show wpAny _ _ (compareOp _ _ (Value.ref _)) _ _ _)); (fail_if_success (with_reducible show wpAny _ _ (call (Value.type _) (Value.ref _ :: _)) _ _ _)); (fail_if_success (with_reducible show wpAny _ _ (call (Value.builtin _) (Value.ref _ :: _)) _ _ _)); (((fail_if_success (with_reducible show wpAny _ _ (call (Value.ref _) _) _ _ _)); (fail_if_success (with_reducible show wpAny _ _ (exec (Stmt.While _ _ _ _) _) _ _ _)))))); (first | (k_unfold; (try dsimp only)) | (k_end; wrow_close) | walk1 | (dsimp only; walk1) | (leave1; walk_say "STEP leave1"; try dsimp only) | fail "no step")))
    (rename Fr _ _ _ _ => F9); (rename News _ _ _ _ => N9)
    with_unfolding_all refine list_copyK F9 N9 (isListN N9 (show (b2, W.listOf (List.toArray u2) m2) ∈ _ by k_mem)) (fun D3 c3 h3 F3 N3 l3 => ?_) (by rw [List.size_toArray]; first | exact fit100 (by assumption) | exact fit1000 (by assumption) | exact fit500 (by assumption) | (rw [sizeLine_eq]; omega))
    clear N9 F9 l3
    (repeat' ((fail_if_success (with_reducible show wpAny _ _ (binaryOp Operator.Add (Value.ref _) _) _ _ _)); (fail_if_success (with_reducible show wpAny _ _ (binaryOp Operator.Add _ (Value.ref _)) _ _ _)); (fail_if_success (with_reducible show wpAny _ _ (subscriptTail _ _ (Value.ref _) _) _ _ _)); (((fail_if_success (with_reducible show wpAny _ _ (call (Value.builtin "len") _) _ _ _)); (fail_if_success (with_reducible show wpAny _ _ (call (Value.type "list") _) _ _ _)); (fail_if_success (with_reducible show wpAny _ _ (compareOp _ (Value.ref _) _) _ _ _)); (fail_if_success (with_reducible show wpAny _ _ (compareOp _ _ (Value.ref _)) _ _ _)); (fail_if_success (with_reducible show wpAny _ _ (call (Value.type _) (Value.ref _ :: _)) _ _ _)); (fail_if_success (with_reducible show wpAny _ _ (call (Value.builtin _) (Value.ref _ :: _)) _ _ _)); (((fail_if_success (with_reducible show wpAny _ _ (call (Value.ref _) _) _ _ _)); (fail_if_success (with_reducible show wpAny _ _ (exec (Stmt.While _ _ _ _) _) _ _ _)))))); (first | (k_unfold; (try dsimp only)) | (k_end; wrow_close) | walk1 | (dsimp only; walk1) | (leave1; walk_say "STEP leave1"; try dsimp only) | fail "no step")))
    with_unfolding_all refine' Con.use (con_sign (keyS (levOf how 4 false e0) ++ 0 :: pl.map (· + 2)) (keyS (levOf how 4 false e0) ++ 0 :: pl.reverse.map (· + 2)) (by rw [← I1.length]; omega) (by rw [← I2.length]; omega)) ?k1 ?k2 ?k3 ?k4 ?k5 ?kK ?kP ?kd ?ku ?_
    (((((case k1 => k_asm); (case k2 => k_asm); (case k3 => k_asm); (case k4 => k_asm); (case k5 => k_asm); (case kK => first | exact rfl | assumption))); (case kd => decide); (case ku => decide)))
    case kP => exact ⟨_, _, rfl, rd_ints_in (by assumption) (show (D1, W.listOf (List.toArray u1) c1) ∈ _ by k_mem) I1, rd_ints_in (by assumption) (show (D3, W.listOf (List.toArray u2) c3) ∈ _ by k_mem) I2⟩
    intro r8 t8 h8 tk8 F8 N8' of8 P8
    obtain ⟨td8, rfl⟩ := P8
    rw [cmp_plain]
    have N8 := News.sub (b := [(D₂, W.listOf (List.toArray ys) ys.length)]) N8' (by (first | (walk_at "MY subB") | (walk_say "OLDSUB"; ((intro p hp; (try simp only [List.mem_cons, List.mem_append, List.cons_append, List.nil_append, List.append_nil, List.not_mem_nil, or_false, false_or, or_assoc] at hp ⊢); first | (simp only [hp, true_or, or_true]; done) | (revert hp; (repeat (first | (with_reducible show (_ ∨ _) → _; refine or_imp.mpr ⟨fun hp => (by simp only [hp, true_or, or_true]), ?_⟩) | fail "no more")); (intro hp; simp only [hp, true_or, or_true]; done)))))))
    clear N8' of8
    (repeat' ((((fail_if_success (with_reducible show wpAny _ _ (call (Value.builtin "len") _) _ _ _)); (fail_if_success (with_reducible show wpAny _ _ (call (Value.type "list") _) _ _ _)); (fail_if_success (with_reducible show wpAny _ _ (compareOp _ (Value.ref _) _) _ _ _)); (fail_if_success (with_reducible show wpAny _ _ (compareOp _ _ (Value.ref _)) _ _ _)); (fail_if_success (with_reducible show wpAny _ _ (call (Value.type _) (Value.ref _ :: _)) _ _ _)); (fail_if_success (with_reducible show wpAny _ _ (call (Value.builtin _) (Value.ref _ :: _)) _ _ _)); (((fail_if_success (with_reducible show wpAny _ _ (call (Value.ref _) _) _ _ _)); (fail_if_success (with_reducible show wpAny _ _ (exec (Stmt.While _ _ _ _) _) _ _ _)))))); (first | (k_unfold; (try dsimp only)) | (k_end; wrow_close) | walk1 | (dsimp only; walk1) | (leave1; walk_say "STEP leave1"; try dsimp only) | fail "no step")))
    (rename IntsAre _ _ => hIr2)
    with_unfolding_all refine' Con.use (con_sign pl pl.reverse (by omega) (by omega)) ?k1 ?k2 ?k3 ?k4 ?k5 ?kK ?kP ?kd ?ku ?_
    (((((case k1 => k_asm); (case k2 => k_asm); (case k3 => k_asm); (case k4 => k_asm); (case k5 => k_asm); (case kK => first | exact rfl | assumption))); (case kd => decide); (case ku => decide)))
    case kP => exact ⟨_, _, rfl, rd_ints_in (by assumption) (show (D₂, W.listOf (List.toArray ys) _) ∈ _ by k_mem) hI, rd_ints_in (by assumption) (by k_mem) hIr2⟩
    intro r9 t9 h9 tk9 F9 N9 of9 P9
    obtain ⟨td9, rfl⟩ := P9
    (repeat' ((fail_if_success (with_reducible show wpAny _ _ (compareOp _ (Value.int _ _) (Value.int _ _)) _ _ _)); (fail_if_success (with_reducible show wpAny _ _ (subscriptTail _ _ (Value.ref _) _) _ _ _)); (((fail_if_success (with_reducible show wpAny _ _ (call (Value.builtin "len") _) _ _ _)); (fail_if_success (with_reducible show wpAny _ _ (call (Value.type "list") _) _ _ _)); (fail_if_success (with_reducible show wpAny _ _ (compareOp _ (Value.ref _) _) _ _ _)); (fail_if_success (with_reducible show wpAny _ _ (compareOp _ _ (Value.ref _)) _ _ _)); (fail_if_success (with_reducible show wpAny _ _ (call (Value.type _) (Value.ref _ :: _)) _ _ _)); (fail_if_success (with_reducible show wpAny _ _ (call (Value.builtin _) (Value.ref _ :: _)) _ _ _)); (((fail_if_success (with_reducible show wpAny _ _ (call (Value.ref _) _) _ _ _)); (fail_if_success (with_reducible show wpAny _ _ (exec (Stmt.While _ _ _ _) _) _ _ _)))))); (first | (k_unfold; (try dsimp only)) | (k_end; wrow_close) | walk1 | (dsimp only; walk1) | (leave1; walk_say "STEP leave1"; try dsimp only) | fail "no step")))
    with_unfolding_all refine eq_same (d := .int _) ⟨_, .int _ _⟩ ⟨_, .int _ _⟩ rfl (show (7 : Nat) + 64 < cLine by decide) ?_
    (repeat' ((((fail_if_success (with_reducible show wpAny _ _ (call (Value.builtin "len") _) _ _ _)); (fail_if_success (with_reducible show wpAny _ _ (call (Value.type "list") _) _ _ _)); (fail_if_success (with_reducible show wpAny _ _ (compareOp _ (Value.ref _) _) _ _ _)); (fail_if_success (with_reducible show wpAny _ _ (compareOp _ _ (Value.ref _)) _ _ _)); (fail_if_success (with_reducible show wpAny _ _ (call (Value.type _) (Value.ref _ :: _)) _ _ _)); (fail_if_success (with_reducible show wpAny _ _ (call (Value.builtin _) (Value.ref _ :: _)) _ _ _)); (((fail_if_success (with_reducible show wpAny _ _ (call (Value.ref _) _) _ _ _)); (fail_if_success (with_reducible show wpAny _ _ (exec (Stmt.While _ _ _ _) _) _ _ _)))))); (first | (k_unfold; (try dsimp only)) | (k_end; wrow_close) | walk1 | (dsimp only; walk1) | (leave1; walk_say "STEP leave1"; try dsimp only) | fail "no step")))
end

theorem law_walk : PySem.Challenge.rw_nt0009_01.Holds :=
  SLW.2 ⟨SL2.2 ⟨SL3.2 ⟨SL4.2 ⟨SL5⟩⟩ ⟨SL6.2 ⟨SL7⟩ ⟨SL8.2 ⟨SL9.2 ⟨SL10⟩⟩⟩⟩⟩⟩
end Mine
theorem PySem.Challenge.cw_nt0009_01_holds : PySem.Challenge.rw_nt0009_01.Holds :=
  Mine.law_walk
#print axioms PySem.Challenge.cw_nt0009_01_holds
